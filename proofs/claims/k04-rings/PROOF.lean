import PyProof.Rows.All
import Wide.All
import OpenK.AllK
import Wide.FinOn
import HandS.ForMost
import HandS.Wide
import HandS.IsInst
import HandS.Zip
import HandS.Walk
import HandS.Lambda
import HandS.TupAny
import HandS.Star
import HandS.Defaults
import HandS.MakeKwOnly
import HandS.Style
import HandS.TryOnly
import HandS.ListItems
import PySem.Challenge.RW_neverhalf_k04_whole_rings_and_which_runs
import HandS.Head0
import HandS.Head1
import HandS.Head2
import HandS.HeadHook1
import HandS.HeadHook2
import HandS.HeadHook3
import HandS.HeadHook4
import HandS.HeadWalk
import HandS.Nested
import KE.OsArith
import HandS.EndTab
set_option Elab.async false
set_option linter.all false
set_option maxRecDepth 100000
set_option maxHeartbeats 4000000
/-! plain data, what stands for it, what an expression does by data alone -/
namespace DL
open PySem PySem.Spec PySem.W PyProof.Rows L2
/-- None, bools, ints, texts; lists that others may hold, tuples; lists that are held here alone; the stream; a def -/
inductive Dat where
  | non | bl (b : Bool) | int (i : Int) | str (s : Str) | lst (l : List Dat) | tup (l : List Dat) | own (l : List Dat) | strm | fn (a : Addr)
theorem same_new {H : Hp} {p : Addr} (h : H p = none) (o : HO) : Same H (upd H p o) := fun b u q => by rw [upd_ne (ne_of_none q h)]; exact q
/-- the stream at st: its cells' list at q, n draws done -/
structure StrAt (H : Hp) (st q : Addr) (n : Int) : Prop where
  ex : ∃ (ns : List Int) (a c : Int), H st = some (.lst [.ref q, .int a, .int n, .int c]) ∧ H q = some (.lst (ns.map V.int)) ∧ 0 ≤ a ∧ 0 ≤ c ∧ c < 2147483647
theorem StrAt.keep {H H' : Hp} {st q : Addr} {n : Int} (S : StrAt H st q n) (h1 : H' st = H st) (h2 : H' q = H q) : StrAt H' st q n := by
  obtain ⟨ns, a, c, e1, e2, r⟩ := S.ex
  exact ⟨ns, a, c, by rw [h1]; exact e1, by rw [h2]; exact e2, r⟩
/-- the stream that is around, if one is -/
structure Wd where
  use : Bool
  st : Addr
  q : Addr
/-- the tables of code objects that grow: the law's own -/
class TabsOf where
  T : List (Addr × Str)
/-- what may change: the stream -/
def Wd.mv (W : Wd) (b : Addr) : Prop := W.use = true ∧ (b = W.st ∨ b = W.q)
mutual
/-- v stands for d; all of it in G -/
def Dv (G : Hp) (W : Wd) : Dat → V → Prop
  | .non, v => v = .non
  | .bl b, v => v = .bl b
  | .int i, v => v = .int i
  | .str s, v => v = .str s
  | .lst l, v => ∃ a xs, v = .ref a ∧ G a = some (.lst xs) ∧ Dvs G W l xs
  | .tup l, v => ∃ a xs, v = .ref a ∧ G a = some (.tup xs) ∧ Dvs G W l xs
  | .own _, _ => False
  | .strm, v => v = .ref W.st ∧ W.use = true
  | .fn a, v => v = .ref a
def Dvs (G : Hp) (W : Wd) : List Dat → List V → Prop
  | [], xs => xs = []
  | d :: l, xs => ∃ x r, xs = x :: r ∧ Dv G W d x ∧ Dvs G W l r
end
mutual
/-- v stands for d: shared parts in G, the owned lists L in H -/
def Ow (H G : Hp) (W : Wd) : Dat → V → List Addr → Prop
  | .non, v, L => v = .non ∧ L = []
  | .bl b, v, L => v = .bl b ∧ L = []
  | .int i, v, L => v = .int i ∧ L = []
  | .str s, v, L => v = .str s ∧ L = []
  | .lst l, v, L => (∃ a xs, v = .ref a ∧ G a = some (.lst xs) ∧ Dvs G W l xs) ∧ L = []
  | .tup l, v, L => ∃ a xs, v = .ref a ∧ G a = some (.tup xs) ∧ Ows H G W l xs L
  | .own l, v, L => ∃ a xs M, v = .ref a ∧ H a = some (.lst xs) ∧ L = a :: M ∧ Ows H G W l xs M
  | .strm, v, L => (v = .ref W.st ∧ W.use = true) ∧ L = []
  | .fn a, v, L => v = .ref a ∧ L = []
def Ows (H G : Hp) (W : Wd) : List Dat → List V → List Addr → Prop
  | [], xs, L => xs = [] ∧ L = []
  | d :: l, xs, L => ∃ x r M N, xs = x :: r ∧ L = M ++ N ∧ Ow H G W d x M ∧ Ows H G W l r N
end
mutual
/-- nothing of it is owned -/
def Dat.sh : Dat → Dat
  | .own l => .lst (shs l)
  | .tup l => .tup (shs l)
  | .lst l => .lst l
  | .non => .non
  | .bl b => .bl b
  | .int i => .int i
  | .str s => .str s
  | .strm => .strm
  | .fn a => .fn a
def shs : List Dat → List Dat
  | [] => []
  | d :: l => d.sh :: shs l
end
mutual
/-- no list in it that others may hold -/
def Dat.clos : Dat → Bool
  | .own l => closs l
  | .tup l => closs l
  | .lst _ => false
  | _ => true
def closs : List Dat → Bool
  | [] => true
  | d :: l => d.clos && closs l
end
theorem shs_map : ∀ l : List Dat, shs l = l.map Dat.sh
  | [] => rfl
  | d :: l => by rw [shs, shs_map l]; rfl
theorem closs_all : ∀ l : List Dat, closs l = l.all Dat.clos
  | [] => rfl
  | d :: l => by rw [closs, closs_all l]; rfl
theorem shs_len (l : List Dat) : (shs l).length = l.length := by rw [shs_map, List.length_map]
mutual
theorem Dv.mono {G G' : Hp} {W : Wd} (k : Same G G') : ∀ (d : Dat) {v : V}, Dv G W d v → Dv G' W d v
  | .non, _, h => by unfold Dv at *; exact h
  | .bl b, _, h => by unfold Dv at *; exact h
  | .int b, _, h => by unfold Dv at *; exact h
  | .str b, _, h => by unfold Dv at *; exact h
  | .lst l, v, h => by
    unfold Dv at *
    obtain ⟨a, xs, e, h, r⟩ := h
    exact ⟨a, xs, e, k _ _ h, Dvs.mono k l r⟩
  | .tup l, v, h => by
    unfold Dv at *
    obtain ⟨a, xs, e, h, r⟩ := h
    exact ⟨a, xs, e, k _ _ h, Dvs.mono k l r⟩
  | .own l, _, h => by unfold Dv at h; exact h.elim
  | .strm, _, h => by unfold Dv at *; exact h
  | .fn a, _, h => by unfold Dv at *; exact h
theorem Dvs.mono {G G' : Hp} {W : Wd} (k : Same G G') : ∀ (l : List Dat) {xs : List V}, Dvs G W l xs → Dvs G' W l xs
  | [], _, h => by unfold Dvs at *; exact h
  | d :: l, xs, h => by
    unfold Dvs at *
    obtain ⟨x, r, e, h1, h2⟩ := h
    exact ⟨x, r, e, Dv.mono k d h1, Dvs.mono k l h2⟩
end
mutual
theorem Dv.shd {G : Hp} {W : Wd} : ∀ (d : Dat) {v : V}, Dv G W d v → d.sh = d
  | .non, _, h => rfl
  | .bl b, _, h => rfl
  | .int b, _, h => rfl
  | .str b, _, h => rfl
  | .lst l, v, h => rfl
  | .tup l, v, h => by
    unfold Dv at h
    obtain ⟨a, xs, e, h, r⟩ := h
    rw [Dat.sh, Dvs.shd l r]
  | .own l, _, h => by unfold Dv at h; exact h.elim
  | .strm, _, h => rfl
  | .fn a, _, h => rfl
theorem Dvs.shd {G : Hp} {W : Wd} : ∀ (l : List Dat) {xs : List V}, Dvs G W l xs → shs l = l
  | [], _, h => rfl
  | d :: l, xs, h => by
    unfold Dvs at h
    obtain ⟨x, r, e, h1, h2⟩ := h
    rw [shs, Dv.shd d h1, Dvs.shd l h2]
end
theorem Dvs.len {G : Hp} {W : Wd} : ∀ {l : List Dat} {xs : List V}, Dvs G W l xs → xs.length = l.length
  | [], xs, h => by
    unfold Dvs at h
    rw [h]
    rfl
  | d :: l, xs, h => by
    unfold Dvs at h
    obtain ⟨x, r, rfl, _, h2⟩ := h
    rw [List.length_cons, List.length_cons, h2.len]
theorem Dvs.at {G : Hp} {W : Wd} : ∀ {l : List Dat} {xs : List V} {i : Nat} {x : V}, Dvs G W l xs → xs[i]? = some x → ∃ d, l[i]? = some d ∧ Dv G W d x
  | [], xs, i, x, h, e => by
    unfold Dvs at h
    rw [h] at e
    cases e
  | d :: l, xs, 0, x, h, e => by
    unfold Dvs at h
    obtain ⟨y, r, rfl, h1, h2⟩ := h
    cases e
    exact ⟨d, rfl, h1⟩
  | d :: l, xs, i + 1, x, h, e => by
    unfold Dvs at h
    obtain ⟨y, r, rfl, h1, h2⟩ := h
    exact Dvs.at (l := l) h2 e
theorem Dvs.get {G : Hp} {W : Wd} : ∀ {l : List Dat} {xs : List V} {i : Nat} {d : Dat}, Dvs G W l xs → l[i]? = some d → ∃ x, xs[i]? = some x ∧ Dv G W d x
  | d :: l, xs, 0, e, h, q => by
    unfold Dvs at h
    obtain ⟨y, r, rfl, h1, h2⟩ := h
    cases q
    exact ⟨y, rfl, h1⟩
  | d :: l, xs, i + 1, e, h, q => by
    unfold Dvs at h
    obtain ⟨y, r, rfl, h1, h2⟩ := h
    exact Dvs.get (l := l) (xs := r) (i := i) h2 q
theorem Dvs.app {G : Hp} {W : Wd} : ∀ {l m : List Dat} {xs ys : List V}, Dvs G W l xs → Dvs G W m ys → Dvs G W (l ++ m) (xs ++ ys)
  | [], m, xs, ys, h1, h2 => by
    unfold Dvs at h1
    rw [h1]
    exact h2
  | d :: l, m, xs, ys, h1, h2 => by
    unfold Dvs at h1
    obtain ⟨x, r, rfl, h, t⟩ := h1
    rw [List.cons_append, List.cons_append]
    unfold Dvs
    exact ⟨x, r ++ ys, rfl, h, t.app h2⟩
theorem Dvs.drop {G : Hp} {W : Wd} : ∀ (k : Nat) {l : List Dat} {xs : List V}, Dvs G W l xs → Dvs G W (l.drop k) (xs.drop k)
  | 0, l, xs, h => h
  | k + 1, [], xs, h => by
    unfold Dvs at h
    rw [h]
    unfold Dvs
    rfl
  | k + 1, d :: l, xs, h => by
    unfold Dvs at h
    obtain ⟨x, r, rfl, _, t⟩ := h
    exact Dvs.drop k t
theorem Dvs.take {G : Hp} {W : Wd} : ∀ (k : Nat) {l : List Dat} {xs : List V}, Dvs G W l xs → Dvs G W (l.take k) (xs.take k)
  | 0, l, xs, h => by
    rw [List.take_zero, List.take_zero]
    unfold Dvs
    rfl
  | k + 1, [], xs, h => by
    unfold Dvs at h
    rw [h]
    unfold Dvs
    rfl
  | k + 1, d :: l, xs, h => by
    unfold Dvs at h
    obtain ⟨x, r, rfl, h, t⟩ := h
    rw [List.take_succ_cons, List.take_succ_cons]
    unfold Dvs
    exact ⟨x, _, rfl, h, Dvs.take k t⟩
mutual
theorem Ow.of_dv {H G : Hp} {W : Wd} : ∀ (d : Dat) {v : V}, Dv G W d v → Ow H G W d v []
  | .non, _, h => by unfold Dv at h; unfold Ow; exact ⟨h, rfl⟩
  | .bl b, _, h => by unfold Dv at h; unfold Ow; exact ⟨h, rfl⟩
  | .int b, _, h => by unfold Dv at h; unfold Ow; exact ⟨h, rfl⟩
  | .str b, _, h => by unfold Dv at h; unfold Ow; exact ⟨h, rfl⟩
  | .lst l, v, h => by unfold Dv at h; unfold Ow; exact ⟨h, rfl⟩
  | .tup l, v, h => by
    unfold Dv at h
    unfold Ow
    obtain ⟨a, xs, e, h, r⟩ := h
    exact ⟨a, xs, e, h, Ows.of_dvs l r⟩
  | .own l, _, h => by unfold Dv at h; exact h.elim
  | .strm, _, h => by unfold Dv at h; unfold Ow; exact ⟨h, rfl⟩
  | .fn a, _, h => by unfold Dv at h; unfold Ow; exact ⟨h, rfl⟩
theorem Ows.of_dvs {H G : Hp} {W : Wd} : ∀ (l : List Dat) {xs : List V}, Dvs G W l xs → Ows H G W l xs []
  | [], _, h => by unfold Dvs at h; unfold Ows; exact ⟨h, rfl⟩
  | d :: l, xs, h => by
    unfold Dvs at h
    unfold Ows
    obtain ⟨x, r, e, h1, h2⟩ := h
    exact ⟨x, r, [], [], e, rfl, Ow.of_dv d h1, Ows.of_dvs l h2⟩
end
/-- the lists in L stay -/
def KpL (L : List Addr) (H H' : Hp) : Prop := ∀ b ∈ L, ∀ xs, H b = some (.lst xs) → H' b = some (.lst xs)
theorem KpL.sub {L M : List Addr} {H H' : Hp} (k : KpL L H H') (h : ∀ b ∈ M, b ∈ L) : KpL M H H' := fun b hb => k b (h b hb)
mutual
theorem Ow.keep {H H' G G' : Hp} {W : Wd} (g : Same G G') : ∀ (d : Dat) {v : V} {L : List Addr}, KpL L H H' → Ow H G W d v L → Ow H' G' W d v L
  | .non, _, _, _, h => by unfold Ow at *; exact h
  | .bl b, _, _, _, h => by unfold Ow at *; exact h
  | .int b, _, _, _, h => by unfold Ow at *; exact h
  | .str b, _, _, _, h => by unfold Ow at *; exact h
  | .lst l, v, L, k, h => by
    unfold Ow at *
    obtain ⟨⟨a, xs, e, h, r⟩, e2⟩ := h
    exact ⟨⟨a, xs, e, g _ _ h, Dvs.mono g l r⟩, e2⟩
  | .tup l, v, L, k, h => by
    unfold Ow at *
    obtain ⟨a, xs, e, h, r⟩ := h
    exact ⟨a, xs, e, g _ _ h, Ows.keep g l k r⟩
  | .own l, v, L, k, h => by
    unfold Ow at *
    obtain ⟨a, xs, M, e, h, eL, r⟩ := h
    subst eL
    exact ⟨a, xs, M, e, k a (List.mem_cons_self ..) _ h, rfl, Ows.keep g l (k.sub fun b hb => List.mem_cons_of_mem _ hb) r⟩
  | .strm, _, _, _, h => by unfold Ow at *; exact h
  | .fn a, _, _, _, h => by unfold Ow at *; exact h
theorem Ows.keep {H H' G G' : Hp} {W : Wd} (g : Same G G') : ∀ (l : List Dat) {xs : List V} {L : List Addr}, KpL L H H' → Ows H G W l xs L → Ows H' G' W l xs L
  | [], _, _, _, h => by unfold Ows at *; exact h
  | d :: l, xs, L, k, h => by
    unfold Ows at *
    obtain ⟨x, r, M, N, e, eL, h1, h2⟩ := h
    subst eL
    exact ⟨x, r, M, N, e, rfl, Ow.keep g d (k.sub fun b hb => List.mem_append_left _ hb) h1, Ows.keep g l (k.sub fun b hb => List.mem_append_right _ hb) h2⟩
end
mutual
theorem Ow.lists {H G : Hp} {W : Wd} : ∀ (d : Dat) {v : V} {L : List Addr}, Ow H G W d v L → ∀ b ∈ L, ∃ xs, H b = some (.lst xs)
  | .non, _, _, h => by unfold Ow at h; rw [h.2]; intro b hb; cases hb
  | .bl _, _, _, h => by unfold Ow at h; rw [h.2]; intro b hb; cases hb
  | .int _, _, _, h => by unfold Ow at h; rw [h.2]; intro b hb; cases hb
  | .str _, _, _, h => by unfold Ow at h; rw [h.2]; intro b hb; cases hb
  | .lst l, _, _, h => by unfold Ow at h; rw [h.2]; intro b hb; cases hb
  | .tup l, _, _, h => by
    unfold Ow at h
    obtain ⟨a, xs, rfl, h, r⟩ := h
    exact Ows.lists l r
  | .own l, _, _, h => by
    unfold Ow at h
    obtain ⟨a, xs, M, rfl, h, rfl, r⟩ := h
    intro b hb
    rcases List.mem_cons.mp hb with e | e
    · rw [e]
      exact ⟨xs, h⟩
    · exact Ows.lists l r b e
  | .strm, _, _, h => by unfold Ow at h; rw [h.2]; intro b hb; cases hb
  | .fn _, _, _, h => by unfold Ow at h; rw [h.2]; intro b hb; cases hb
theorem Ows.lists {H G : Hp} {W : Wd} : ∀ (l : List Dat) {xs : List V} {L : List Addr}, Ows H G W l xs L → ∀ b ∈ L, ∃ xs, H b = some (.lst xs)
  | [], _, _, h => by unfold Ows at h; rw [h.2]; intro b hb; cases hb
  | d :: l, _, _, h => by
    unfold Ows at h
    obtain ⟨x, r, M, N, rfl, rfl, h1, h2⟩ := h
    intro b hb
    rcases List.mem_append.mp hb with e | e
    · exact Ow.lists d h1 b e
    · exact Ows.lists l h2 b e
end
mutual
theorem Ow.shv {H G G' : Hp} {W : Wd} (g : Same G G') : ∀ (d : Dat) {v : V} {L : List Addr}, (∀ b ∈ L, G' b = H b) → Ow H G W d v L → Dv G' W d.sh v
  | .non, _, _, _, h => by unfold Ow at h; unfold Dat.sh Dv; exact h.1
  | .bl b, _, _, _, h => by unfold Ow at h; unfold Dat.sh Dv; exact h.1
  | .int b, _, _, _, h => by unfold Ow at h; unfold Dat.sh Dv; exact h.1
  | .str b, _, _, _, h => by unfold Ow at h; unfold Dat.sh Dv; exact h.1
  | .lst l, v, L, k, h => by
    unfold Ow at h
    unfold Dat.sh Dv
    obtain ⟨⟨a, xs, e, h, r⟩, e2⟩ := h
    exact ⟨a, xs, e, g _ _ h, Dvs.mono g l r⟩
  | .tup l, v, L, k, h => by
    unfold Ow at h
    unfold Dat.sh Dv
    obtain ⟨a, xs, e, h, r⟩ := h
    exact ⟨a, xs, e, g _ _ h, Ows.shvs g l k r⟩
  | .own l, v, L, k, h => by
    unfold Ow at h
    unfold Dat.sh Dv
    obtain ⟨a, xs, M, e, h, eL, r⟩ := h
    subst eL
    exact ⟨a, xs, e, by rw [k a (List.mem_cons_self ..)]; exact h, Ows.shvs g l (fun b hb => k b (List.mem_cons_of_mem _ hb)) r⟩
  | .strm, _, _, _, h => by unfold Ow at h; unfold Dat.sh Dv; exact h.1
  | .fn a, _, _, _, h => by unfold Ow at h; unfold Dat.sh Dv; exact h.1
theorem Ows.shvs {H G G' : Hp} {W : Wd} (g : Same G G') : ∀ (l : List Dat) {xs : List V} {L : List Addr}, (∀ b ∈ L, G' b = H b) → Ows H G W l xs L → Dvs G' W (shs l) xs
  | [], _, _, _, h => by unfold Ows at h; unfold shs Dvs; exact h.1
  | d :: l, xs, L, k, h => by
    unfold Ows at h
    unfold shs Dvs
    obtain ⟨x, r, M, N, e, eL, h1, h2⟩ := h
    subst eL
    exact ⟨x, r, e, Ow.shv g d (fun b hb => k b (List.mem_append_left _ hb)) h1, Ows.shvs g l (fun b hb => k b (List.mem_append_right _ hb)) h2⟩
end
mutual
theorem Ow.closd {H G G' : Hp} {W : Wd} (g : ∀ b xs, G b = some (.tup xs) → G' b = some (.tup xs)) : ∀ (d : Dat) {v : V} {L : List Addr}, d.clos = true → Ow H G W d v L → Ow H G' W d v L
  | .non, _, _, _, h => by unfold Ow at *; exact h
  | .bl b, _, _, _, h => by unfold Ow at *; exact h
  | .int b, _, _, _, h => by unfold Ow at *; exact h
  | .str b, _, _, _, h => by unfold Ow at *; exact h
  | .lst l, v, L, k, h => by cases k
  | .tup l, v, L, k, h => by
    unfold Ow at *
    obtain ⟨a, xs, e, h, r⟩ := h
    exact ⟨a, xs, e, g _ _ h, Ows.closd g l k r⟩
  | .own l, v, L, k, h => by
    unfold Ow at *
    obtain ⟨a, xs, M, e, h, eL, r⟩ := h
    exact ⟨a, xs, M, e, h, eL, Ows.closd g l k r⟩
  | .strm, _, _, _, h => by unfold Ow at *; exact h
  | .fn a, _, _, _, h => by unfold Ow at *; exact h
theorem Ows.closd {H G G' : Hp} {W : Wd} (g : ∀ b xs, G b = some (.tup xs) → G' b = some (.tup xs)) : ∀ (l : List Dat) {xs : List V} {L : List Addr}, closs l = true → Ows H G W l xs L → Ows H G' W l xs L
  | [], _, _, _, h => by unfold Ows at *; exact h
  | d :: l, xs, L, k, h => by
    unfold closs at k
    rw [Bool.and_eq_true] at k
    unfold Ows at *
    obtain ⟨x, r, M, N, e, eL, h1, h2⟩ := h
    exact ⟨x, r, M, N, e, eL, Ow.closd g d k.1 h1, Ows.closd g l k.2 h2⟩
end
theorem Ows.len {H G : Hp} {W : Wd} : ∀ {l : List Dat} {xs : List V} {L : List Addr}, Ows H G W l xs L → xs.length = l.length
  | [], xs, _, h => by
    unfold Ows at h
    rw [h.1]
    rfl
  | d :: l, xs, _, h => by
    unfold Ows at h
    obtain ⟨x, r, M, N, rfl, _, _, h2⟩ := h
    rw [List.length_cons, List.length_cons, h2.len]
theorem Ows.app {H G : Hp} {W : Wd} : ∀ {l1 l2 : List Dat} {xs1 xs2 : List V} {L1 L2 : List Addr}, Ows H G W l1 xs1 L1 → Ows H G W l2 xs2 L2 → Ows H G W (l1 ++ l2) (xs1 ++ xs2) (L1 ++ L2)
  | [], _, _, _, _, _, h1, h2 => by
    unfold Ows at h1
    obtain ⟨rfl, rfl⟩ := h1
    exact h2
  | d :: l, l2, _, xs2, _, M2, h1, h2 => by
    unfold Ows at h1
    obtain ⟨x, r, M, N, rfl, rfl, h, t⟩ := h1
    rw [List.cons_append]
    unfold Ows
    exact ⟨x, r ++ xs2, M, N ++ M2, rfl, by rw [List.append_assoc], h, t.app h2⟩
theorem Ows.one {H G : Hp} {W : Wd} {d : Dat} {v : V} {L : List Addr} (h : Ow H G W d v L) : Ows H G W [d] [v] L := by
  unfold Ows
  exact ⟨v, [], L, [], rfl, by rw [List.append_nil], h, by unfold Ows; exact ⟨rfl, rfl⟩⟩
theorem Ows.nil {H G : Hp} {W : Wd} : Ows H G W [] [] [] := by unfold Ows; exact ⟨rfl, rfl⟩
/-- a def of the text: callable -/
structure Df (P : Program) (w : World) (K : Frag) (mg : Str → Option Value) (base : Heap) (x : Str) (k : Nat) (ps : List Str) (sp : Sp) : Prop where
  ex : ∃ (f : Addr) (fd : FuncData), mg x = some (.ref f) ∧ keepIn K (.ref f) = true ∧ Binds K fd ps [] ∧ FnOk P w K mg base CX0 k f fd ps sp
theorem pe_df {X : Cx} {x : Str} {k : Nat} {ps : List Str} {sp : Sp} {e : Expr} {es : List Expr} {t : TA} {p pos : Pos} (D : Df X.prog X.w X.K X.mg X.base x k ps sp) (hr : Room k X.A) (hg : Gl X x) (ha : PA X (e :: es) t)
    (hdb : (x == ("__debug__" : Str)) = false := by decide) (he : starEach (e :: es) X.env = (false, eval e X.env) :: starEach es X.env := by rfl) (hpl : (backTo pos (starEach es X.env)).any (·.1) = false := by rfl) :
    PE X (.Call (.Name x p) (e :: es) [] pos) (tCall sp [] E0 t) := by
  obtain ⟨f, fd, h1, h2, h3, h4⟩ := D.ex
  exact pe_call h4 hr hg h1 h2 h3 .nil pass0 ha hdb he hpl
end DL
set_option Elab.async false
set_option linter.all false
set_option maxRecDepth 100000
set_option maxHeartbeats 4000000
/-! how the heap goes on; readings by data alone -/
namespace DL
open PySem PySem.Spec PySem.W PyProof.Rows L2
variable [TabsOf]
/-- the heap H, of which G is what is shared; n draws done -/
structure Hs (W : Wd) (H G : Hp) (n : Int) : Prop where
  le : Same G H
  str : W.use = true → StrAt H W.st W.q n ∧ W.st ≠ W.q ∧ 0 ≤ n
  tab : W.use = true → LamX.Tabs TabsOf.T H
  out : ∀ b, W.mv b → G b = none
  nt : ∀ b o, G b = some o → ∀ ps, o ≠ .tbl ps
structure Go (W : Wd) (H G H' G' : Hp) : Prop where
  but : ∀ b o, H b = some o → (W.use = true → ∀ ps, o ≠ .tbl ps) → ¬ W.mv b → H' b = some o
  dom : ∀ b, H' b = none → H b = none
  grow : Same G G'
  new : ∀ b o, G' b = some o → G b = some o ∨ H b = none
theorem Same.refl {H : Hp} : Same H H := fun _ _ e => e
theorem Go.refl {W : Wd} {H G : Hp} : Go W H G H G := ⟨fun _ _ e _ _ => e, fun _ e => e, Same.refl, fun _ _ e => .inl e⟩
theorem Go.trans {W : Wd} {H G H1 G1 H2 G2 : Hp} (a : Go W H G H1 G1) (b : Go W H1 G1 H2 G2) : Go W H G H2 G2 :=
  ⟨fun c o e nt n => b.but c o (a.but c o e nt n) nt n, fun c e => a.dom c (b.dom c e), a.grow.trans b.grow, fun c o e => by
    rcases b.new c o e with h | h
    · exact a.new c o h
    · exact .inr (a.dom c h)⟩
theorem Go.shared {W : Wd} {H G : Hp} {p : Addr} (o : HO) (le : Same G H) (hp : H p = none) : Go W H G (upd H p o) (upd G p o) := by
  refine ⟨fun b u e _ _ => ?_, fun b e => ?_, fun b u e => ?_, fun b u e => ?_⟩
  · rw [upd_ne (ne_of_none e hp)]
    exact e
  · by_cases h : b = p
    · rw [h, upd_same] at e
      cases e
    · rw [upd_ne h] at e
      exact e
  · rw [upd_ne (ne_of_none (le _ _ e) hp)]
    exact e
  · by_cases h : b = p
    · rw [h]
      exact .inr hp
    · rw [upd_ne h] at e
      exact .inl e
theorem Go.owned {W : Wd} {H G : Hp} {p : Addr} (o : HO) (hp : H p = none) : Go W H G (upd H p o) G := by
  refine ⟨fun b u e _ _ => ?_, fun b e => ?_, Same.refl, fun b u e => .inl e⟩
  · rw [upd_ne (ne_of_none e hp)]
    exact e
  · by_cases h : b = p
    · rw [h, upd_same] at e
      cases e
    · rw [upd_ne h] at e
      exact e
theorem Hs.ne {W : Wd} {H G : Hp} {n : Int} (h : Hs W H G n) {p : Addr} (hp : H p = none) : ¬ W.mv p := by
  rintro ⟨u, z⟩
  · obtain ⟨⟨ns, a, c, e1, e2, _⟩, _⟩ := h.str u
    rcases z with rfl | rfl
    · rw [e1] at hp
      cases hp
    · rw [e2] at hp
      cases hp
theorem mv_st {W : Wd} {p : Addr} (h : ¬ W.mv p) (u : W.use = true) : W.st ≠ p ∧ W.q ≠ p := ⟨(fun z => h ⟨u, .inl z.symm⟩), (fun z => h ⟨u, .inr z.symm⟩)⟩
/-- the tables lean on no list -/
theorem tabs_keep {T : List (Addr × Str)} {H H' : Hp} (t : LamX.Tabs T H) (e : ∀ b o, H b = some o → (∀ xs, o ≠ .lst xs) → H' b = some o) : LamX.Tabs T H' := fun p hp => by
  obtain ⟨ps, h1, h2, h3⟩ := t p hp
  refine ⟨ps, e _ _ h1 (fun xs z => by cases z), h2, fun pos cv hc => ?_⟩
  obtain ⟨c, e1, e2⟩ := h3 pos cv hc
  exact ⟨c, e1, e _ _ e2 (fun xs z => by unfold LamX.CodeO at z; cases z)⟩
theorem Hs.shared {W : Wd} {H G : Hp} {n : Int} (h : Hs W H G n) {p : Addr} (o : HO) (hp : H p = none) (no : ∀ ps, o ≠ .tbl ps := by intro ps z; cases z) : Hs W (upd H p o) (upd G p o) n := by
  have nm := h.ne hp
  refine ⟨fun b u e => ?_, fun u => ?_, (fun us => (h.tab us).ext fun b u e => by rw [upd_ne (ne_of_none e hp)]; exact e), fun b hb => ?_, fun b u e => ?_⟩
  · by_cases z : b = p
    · rw [z, upd_same] at e ⊢
      exact e
    · rw [upd_ne z] at e ⊢
      exact h.le _ _ e
  · obtain ⟨s, ne, n0⟩ := h.str u
    obtain ⟨n1, n2⟩ := mv_st nm u
    exact ⟨s.keep (upd_ne n1) (upd_ne n2), ne, n0⟩
  · rw [upd_ne fun z => nm (by rw [← z]; exact hb)]
    exact h.out b hb
  · by_cases z : b = p
    · rw [z, upd_same] at e
      cases e
      exact no
    · rw [upd_ne z] at e
      exact h.nt b u e
theorem Hs.owned {W : Wd} {H G : Hp} {n : Int} (h : Hs W H G n) {p : Addr} (o : HO) (hp : H p = none) : Hs W (upd H p o) G n := by
  have nm := h.ne hp
  refine ⟨fun b u e => ?_, fun u => ?_, (fun us => (h.tab us).ext fun b u e => by rw [upd_ne (ne_of_none e hp)]; exact e), h.out, h.nt⟩
  · rw [upd_ne (ne_of_none (h.le _ _ e) hp)]
    exact h.le _ _ e
  · obtain ⟨s, ne, n0⟩ := h.str u
    obtain ⟨n1, n2⟩ := mv_st nm u
    exact ⟨s.keep (upd_ne n1) (upd_ne n2), ne, n0⟩
theorem Hs.gnone {W : Wd} {H G : Hp} {n : Int} (h : Hs W H G n) {p : Addr} (hp : H p = none) : G p = none := by
  cases e : G p with
  | none => rfl
  | some o =>
    have := h.le _ _ e
    rw [hp] at this
    cases this
/-- the owned lists L are new since H, and no others hold them -/
structure OwN (W : Wd) (H H' G' : Hp) (d : Dat) (v : V) (L : List Addr) : Prop where
  ow : Ow H' G' W d v L
  nd : L.Nodup
  fr : ∀ b ∈ L, H b = none ∧ G' b = none
structure OwNs (W : Wd) (H H' G' : Hp) (d : List Dat) (v : List V) (L : List Addr) : Prop where
  ow : Ows H' G' W d v L
  nd : L.Nodup
  fr : ∀ b ∈ L, H b = none ∧ G' b = none
theorem OwN.of_dv {W : Wd} {H H' G' : Hp} {d : Dat} {v : V} (h : Dv G' W d v) : OwN W H H' G' d v [] := ⟨Ow.of_dv d h, List.nodup_nil, fun b hb => by cases hb⟩
theorem OwN.older {W : Wd} {H G H1 G1 H2 G2 : Hp} {d : Dat} {v : V} {L : List Addr} (g : Go W H G H1 G1) (o : OwN W H1 H2 G2 d v L) : OwN W H H2 G2 d v L := ⟨o.ow, o.nd, fun b hb => ⟨g.dom b (o.fr b hb).1, (o.fr b hb).2⟩⟩
theorem OwNs.older {W : Wd} {H G H1 G1 H2 G2 : Hp} {d : List Dat} {v : List V} {L : List Addr} (g : Go W H G H1 G1) (o : OwNs W H1 H2 G2 d v L) : OwNs W H H2 G2 d v L := ⟨o.ow, o.nd, fun b hb => ⟨g.dom b (o.fr b hb).1, (o.fr b hb).2⟩⟩
theorem go_kpl {W : Wd} {H G H1 G1 H2 G2 : Hp} {n : Int} {L : List Addr} (h : Hs W H G n) (g : Go W H1 G1 H2 G2) (fr : ∀ b ∈ L, H b = none) : KpL L H1 H2 := fun b hb xs e => g.but b _ e (fun _ ps z => by cases z) (h.ne (fr b hb))
theorem go_gnone {W : Wd} {H1 G1 H2 G2 : Hp} {b : Addr} {o : HO} (g : Go W H1 G1 H2 G2) (h1 : H1 b = some o) (h2 : G1 b = none) : G2 b = none := by
  cases e : G2 b with
  | none => rfl
  | some u =>
    rcases g.new b u e with z | z
    · rw [h2] at z
      cases z
    · rw [h1] at z
      cases z
theorem OwN.go {W : Wd} {H G H1 G1 H2 G2 : Hp} {n : Int} {d : Dat} {v : V} {L : List Addr} (h : Hs W H G n) (o : OwN W H H1 G1 d v L) (g : Go W H1 G1 H2 G2) : OwN W H H2 G2 d v L := by
  refine ⟨Ow.keep g.grow d (go_kpl h g fun b hb => (o.fr b hb).1) o.ow, o.nd, fun b hb => ⟨(o.fr b hb).1, ?_⟩⟩
  obtain ⟨xs, e⟩ := Ow.lists d o.ow b hb
  exact go_gnone g e (o.fr b hb).2
theorem OwNs.go {W : Wd} {H G H1 G1 H2 G2 : Hp} {n : Int} {d : List Dat} {v : List V} {L : List Addr} (h : Hs W H G n) (o : OwNs W H H1 G1 d v L) (g : Go W H1 G1 H2 G2) : OwNs W H H2 G2 d v L := by
  refine ⟨Ows.keep g.grow d (go_kpl h g fun b hb => (o.fr b hb).1) o.ow, o.nd, fun b hb => ⟨(o.fr b hb).1, ?_⟩⟩
  obtain ⟨xs, e⟩ := Ows.lists d o.ow b hb
  exact go_gnone g e (o.fr b hb).2
/-- what is owned is shared from now on -/
def addL (L : List Addr) (G H : Hp) : Hp := fun b => if b ∈ L then H b else G b
theorem addL_in {L : List Addr} {G H : Hp} {b : Addr} (h : b ∈ L) : addL L G H b = H b := by unfold addL; rw [if_pos h]
theorem addL_out {L : List Addr} {G H : Hp} {b : Addr} (h : b ∉ L) : addL L G H b = G b := by unfold addL; rw [if_neg h]
theorem addL_grow {L : List Addr} {G H : Hp} (fr : ∀ b ∈ L, G b = none) : Same G (addL L G H) := fun b o e => by
  rw [addL_out fun hb => by rw [fr b hb] at e; cases e]
  exact e
theorem addL_le {L : List Addr} {G H : Hp} (le : Same G H) : Same (addL L G H) H := fun b o e => by
  by_cases h : b ∈ L
  · rw [addL_in h] at e
    exact e
  · rw [addL_out h] at e
    exact le _ _ e
theorem go_share {W : Wd} {H G H' G' : Hp} {L : List Addr} (g : Go W H G H' G') (fr : ∀ b ∈ L, H b = none ∧ G' b = none) : Go W H G H' (addL L G' H') :=
  ⟨g.but, g.dom, g.grow.trans (addL_grow fun b hb => (fr b hb).2), fun b o e => by
    by_cases h : b ∈ L
    · exact .inr (fr b h).1
    · rw [addL_out h] at e
      exact g.new b o e⟩
theorem addL_nt {L : List Addr} {G H : Hp} (nt : ∀ b o, G b = some o → ∀ ps, o ≠ .tbl ps) (li : ∀ b ∈ L, ∃ xs, H b = some (.lst xs)) : ∀ b o, addL L G H b = some o → ∀ ps, o ≠ .tbl ps := fun b o e => by
  by_cases z : b ∈ L
  · rw [addL_in z] at e
    obtain ⟨xs, h⟩ := li b z
    rw [h] at e
    cases e
    intro ps z
    cases z
  · rw [addL_out z] at e
    exact nt b o e
theorem hs_share {W : Wd} {H G H' G' : Hp} {n n' : Int} {L : List Addr} (h : Hs W H G n) (h' : Hs W H' G' n') (fr : ∀ b ∈ L, H b = none ∧ G' b = none) (li : ∀ b ∈ L, ∃ xs, H' b = some (.lst xs)) : Hs W H' (addL L G' H') n' :=
  ⟨addL_le h'.le, h'.str, h'.tab, fun b hb => by
    rw [addL_out fun hl => h.ne (fr b hl).1 hb]
    exact h'.out b hb, addL_nt h'.nt li⟩
theorem OwN.share {W : Wd} {H H' G' : Hp} {d : Dat} {v : V} {L : List Addr} (o : OwN W H H' G' d v L) : Dv (addL L G' H') W d.sh v :=
  Ow.shv (addL_grow fun b hb => (o.fr b hb).2) d (fun b hb => addL_in hb) o.ow
theorem OwNs.share {W : Wd} {H H' G' : Hp} {d : List Dat} {v : List V} {L : List Addr} (o : OwNs W H H' G' d v L) : Dvs (addL L G' H') W (shs d) v :=
  Ows.shvs (addL_grow fun b hb => (o.fr b hb).2) d (fun b hb => addL_in hb) o.ow

/-! ### readings -/
abbrev DSt := List (Option Dat)
abbrev DE := DSt → Int → (Dat → Int → Prop) → Prop
abbrev DT := DSt → Int → (Bool → Int → Prop) → Prop
abbrev DA := DSt → Int → (List Dat → Int → Prop) → Prop
/-- the slots stand for D, all shared -/
structure SlD (G : Hp) (W : Wd) (D : DSt) (σ : L2.St) : Prop where
  len : D.length = σ.length
  val : ∀ (i : Nat) (d : Dat), D[i]? = some (some d) → ∃ v, σ[i]? = some (some v) ∧ Dv G W d v
theorem SlD.mono {G G' : Hp} {W : Wd} {D : DSt} {σ : L2.St} (k : Same G G') (s : SlD G W D σ) : SlD G' W D σ := ⟨s.len, fun i d e => by
  obtain ⟨v, h1, h2⟩ := s.val i d e
  exact ⟨v, h1, Dv.mono k d h2⟩⟩
def KE (W : Wd) (H G : Hp) (q : Dat → Int → Prop) (Q : VK) : Prop := ∀ d n' v H' G' L, Go W H G H' G' → Hs W H' G' n' → OwN W H H' G' d v L → q d n' → Q v H'
def KS (W : Wd) (H G : Hp) (q : Dat → Int → Prop) (Q : VK) : Prop := ∀ d n' v H' G', Go W H G H' G' → Hs W H' G' n' → Dv G' W d v → q d n' → Q v H'
def KT (W : Wd) (H G : Hp) (q : Bool → Int → Prop) (Q : Bool → Hp → Prop) : Prop := ∀ b n' H' G', Go W H G H' G' → Hs W H' G' n' → q b n' → Q b H'
def KA (W : Wd) (H G : Hp) (q : List Dat → Int → Prop) (Q : List V → Hp → Prop) : Prop := ∀ d n' v H' G' L, Go W H G H' G' → Hs W H' G' n' → OwNs W H H' G' d v L → q d n' → Q v H'
def KAS (W : Wd) (H G : Hp) (q : List Dat → Int → Prop) (Q : List V → Hp → Prop) : Prop := ∀ d n' v H' G', Go W H G H' G' → Hs W H' G' n' → Dvs G' W d v → q d n' → Q v H'
theorem KE.go {W : Wd} {H G H1 G1 : Hp} {q : Dat → Int → Prop} {Q : VK} (g : Go W H G H1 G1) (k : KE W H G q Q) : KE W H1 G1 q Q := fun d n' v H' G' L g' h' o e => k d n' v H' G' L (g.trans g') h' (o.older g) e
theorem KT.go {W : Wd} {H G H1 G1 : Hp} {q : Bool → Int → Prop} {Q : Bool → Hp → Prop} (g : Go W H G H1 G1) (k : KT W H G q Q) : KT W H1 G1 q Q := fun b n' H' G' g' h' e => k b n' H' G' (g.trans g') h' e
theorem KA.go {W : Wd} {H G H1 G1 : Hp} {q : List Dat → Int → Prop} {Q : List V → Hp → Prop} (g : Go W H G H1 G1) (k : KA W H G q Q) : KA W H1 G1 q Q := fun d n' v H' G' L g' h' o e => k d n' v H' G' L (g.trans g') h' (o.older g) e
/-- a result that nobody owns -/
theorem KE.dv {W : Wd} {H G H' G' : Hp} {q : Dat → Int → Prop} {Q : VK} (k : KE W H G q Q) {d : Dat} {n : Int} {v : V} (g : Go W H G H' G') (h : Hs W H' G' n) (o : Dv G' W d v) (e : q d n) : Q v H' := k d n v H' G' [] g h (OwN.of_dv o) e
theorem KE.here {W : Wd} {H G : Hp} {q : Dat → Int → Prop} {Q : VK} (k : KE W H G q Q) {d : Dat} {n : Int} {v : V} (h : Hs W H G n) (o : Dv G W d v) (e : q d n) : Q v H := k.dv Go.refl h o e
def RE (t : TE) (f : DE) : Prop := ∀ (W : Wd) (D : DSt) (σ : L2.St) (H G : Hp) (n : Int) (q : Dat → Int → Prop) (Q : VK), SlD G W D σ → Hs W H G n → f D n q → KE W H G q Q → t σ H Q
def RT (t : TT) (f : DT) : Prop := ∀ (W : Wd) (D : DSt) (σ : L2.St) (H G : Hp) (n : Int) (q : Bool → Int → Prop) (Q : Bool → Hp → Prop), SlD G W D σ → Hs W H G n → f D n q → KT W H G q Q → t σ H Q
def RA (t : TA) (f : DA) : Prop := ∀ (W : Wd) (D : DSt) (σ : L2.St) (H G : Hp) (n : Int) (q : List Dat → Int → Prop) (Q : List V → Hp → Prop), SlD G W D σ → Hs W H G n → f D n q → KA W H G q Q → t σ H Q
theorem RE.s {t : TE} {f : DE} (r : RE t f) {W : Wd} {D : DSt} {σ : L2.St} {H G : Hp} {n : Int} {q : Dat → Int → Prop} {Q : VK} (s : SlD G W D σ) (h : Hs W H G n) (e : f D n fun d n' => q d.sh n') (k : KS W H G q Q) : t σ H Q :=
  r W D σ H G n _ Q s h e fun d n' v H' G' L g h' o e' => k d.sh n' v H' (addL L G' H') (go_share g o.fr) (hs_share h h' o.fr (Ow.lists _ o.ow)) o.share e'
theorem RA.s {t : TA} {f : DA} (r : RA t f) {W : Wd} {D : DSt} {σ : L2.St} {H G : Hp} {n : Int} {q : List Dat → Int → Prop} {Q : List V → Hp → Prop} (s : SlD G W D σ) (h : Hs W H G n) (e : f D n fun d n' => q (shs d) n') (k : KAS W H G q Q) : t σ H Q :=
  r W D σ H G n _ Q s h e fun d n' v H' G' L g h' o e' => k (shs d) n' v H' (addL L G' H') (go_share g o.fr) (hs_share h h' o.fr (Ows.lists _ o.ow)) o.share e'
/-! names, constants -/
def dVar (i : Nat) : DE := fun D n Q => ∃ d, D[i]? = some (some d) ∧ Q d n
def dC (d : Dat) : DE := fun _ n Q => Q d n
theorem re_var (i : Nat) : RE (tVar i) (dVar i) := fun W D σ H G n q Q s h ⟨d, e, hq⟩ k => by
  obtain ⟨v, e1, o⟩ := s.val i d e
  exact ⟨v, e1, k.here h o hq⟩
theorem re_non : RE (tC .non) (dC .non) := fun W D σ H G n q Q s h e k => k.here h (by unfold Dv; rfl) e
theorem re_bl (b : Bool) : RE (tC (.bl b)) (dC (.bl b)) := fun W D σ H G n q Q s h e k => k.here h (by unfold Dv; rfl) e
theorem re_int (i : Int) : RE (tC (.int i)) (dC (.int i)) := fun W D σ H G n q Q s h e k => k.here h (by unfold Dv; rfl) e
theorem re_str (i : Str) : RE (tC (.str i)) (dC (.str i)) := fun W D σ H G n q Q s h e k => k.here h (by unfold Dv; rfl) e
theorem re_fn (a : Addr) : RE (tC (.ref a)) (dC (.fn a)) := fun W D σ H G n q Q s h e k => k.here h (by unfold Dv; rfl) e
/-! operations on values -/
def OpD (r : R2) (rd : Dat → Dat → (Dat → Prop) → Prop) : Prop := ∀ (W : Wd) (H G : Hp) (n : Int) (x y : V) (a b : Dat) (q : Dat → Prop) (Q : VK), Hs W H G n → Dv G W a x → Dv G W b y → rd a b q → KE W H G (fun d n' => n' = n ∧ q d) Q → r x y H Q
def UnD (r : V → Hp → VK → Prop) (rd : Dat → (Dat → Prop) → Prop) : Prop := ∀ (W : Wd) (H G : Hp) (n : Int) (x : V) (a : Dat) (q : Dat → Prop) (Q : VK), Hs W H G n → Dv G W a x → rd a q → KE W H G (fun d n' => n' = n ∧ q d) Q → r x H Q
def dOp (rd : Dat → Dat → (Dat → Prop) → Prop) (fa fb : DE) : DE := fun D n Q => fa D n fun x n1 => fb D n1 fun y n2 => rd x.sh y.sh fun d => Q d n2
def dUn (rd : Dat → (Dat → Prop) → Prop) (fa : DE) : DE := fun D n Q => fa D n fun x n1 => rd x.sh fun d => Q d n1
theorem re_op {r : R2} {rd : Dat → Dat → (Dat → Prop) → Prop} {ta tb : TE} {fa fb : DE} (o : OpD r rd) (a : RE ta fa) (b : RE tb fb) : RE (tOp r ta tb) (dOp rd fa fb) := fun W D σ H G n q Q s h e k =>
  a.s (q := fun x n1 => fb D n1 fun y n2 => rd x y.sh fun d => q d n2) s h e fun x n1 vx H1 G1 g1 h1 ox e1 => b.s (q := fun y n2 => rd x y fun d => q d n2) (s.mono g1.grow) h1 e1 fun y n2 vy H2 G2 g2 h2 oy e2 =>
    o W H2 G2 n2 vx vy x y _ Q h2 (Dv.mono g2.grow _ ox) oy e2 fun d n' v H' G' L g h' ow ⟨en, eq⟩ => by
      subst en
      exact k d n' v H' G' L ((g1.trans g2).trans g) h' (ow.older (g1.trans g2)) eq
theorem re_un {r : V → Hp → VK → Prop} {rd : Dat → (Dat → Prop) → Prop} {ta : TE} {fa : DE} (o : UnD r rd) (a : RE ta fa) : RE (tUn r ta) (dUn rd fa) := fun W D σ H G n q Q s h e k =>
  a.s (q := fun x n1 => rd x fun d => q d n1) s h e fun x n1 vx H1 G1 g1 h1 ox e1 => o W H1 G1 n1 vx x _ Q h1 ox e1 fun d n' v H' G' L g h' ow ⟨en, eq⟩ => by
      subst en
      exact k d n' v H' G' L (g1.trans g) h' (ow.older g1) eq
/-! lists of arguments -/
def dNil : DA := fun _ n Q => Q [] n
def dCons (f : DE) (g : DA) : DA := fun D n Q => f D n fun x n1 => g D n1 fun xs n2 => Q (x :: xs) n2
theorem ra_nil : RA tNil dNil := fun W D σ H G n q Q s h e k => k [] n [] H G [] Go.refl h ⟨Ows.nil, List.nodup_nil, fun b hb => by cases hb⟩ e
theorem ra_cons {t : TE} {f : DE} {u : TA} {g : DA} (a : RE t f) (b : RA u g) : RA (tCons t u) (dCons f g) := fun W D σ H G n q Q s h e k =>
  a W D σ H G n _ _ s h e fun x n1 vx H1 G1 L1 g1 h1 ox e1 => b W D σ H1 G1 n1 _ _ (s.mono g1.grow) h1 e1 fun xs n2 vs H2 G2 L2 g2 h2 os e2 => by
    have o1 := ox.go h g2
    refine k (x :: xs) n2 (vx :: vs) H2 G2 (L1 ++ L2) (g1.trans g2) h2 ⟨?_, ?_, ?_⟩ e2
    · unfold Ows
      exact ⟨vx, vs, L1, L2, rfl, rfl, o1.ow, os.ow⟩
    · refine List.nodup_append.mpr ⟨o1.nd, os.nd, fun p hp q hq z => ?_⟩
      obtain ⟨ys, ey⟩ := Ow.lists _ ox.ow p hp
      have := (os.fr q hq).1
      rw [← z, ey] at this
      cases this
    · intro p hp
      rcases List.mem_append.mp hp with z | z
      · exact o1.fr p z
      · exact ⟨g1.dom p (os.fr p z).1, (os.fr p z).2⟩
/-! tuples, lists -/
def dTup (f : DA) : DE := fun D n Q => f D n fun xs n1 => xs.length ≤ sizeLine ∧ Q (.tup xs) n1
def dLst (f : DA) : DE := fun D n Q => f D n fun xs n1 => xs.length ≤ sizeLine ∧ Q (.own xs) n1
theorem KE.newT {W : Wd} {H G H1 G1 : Hp} {n : Int} {q : Dat → Int → Prop} {Q : VK} (k : KE W H G q Q) {l : List Dat} {vs : List V} {L : List Addr} (h : Hs W H G n) (g : Go W H G H1 G1) {n1 : Int} (h1 : Hs W H1 G1 n1) (o : OwNs W H H1 G1 l vs L) (e : q (.tup l) n1) {p : Addr} (hp : H1 p = none) : Q (.ref p) (upd H1 p (.tup vs)) := by
  have g2 := Go.shared (W := W) (.tup vs) h1.le hp
  refine k (.tup l) n1 (.ref p) _ _ L (g.trans g2) (h1.shared _ hp) ⟨?_, o.nd, (o.go h g2).fr⟩ e
  unfold Ow
  exact ⟨p, vs, rfl, upd_same, (o.go h g2).ow⟩
theorem KE.newL {W : Wd} {H G H1 G1 : Hp} {n : Int} {q : Dat → Int → Prop} {Q : VK} (k : KE W H G q Q) {l : List Dat} {vs : List V} {L : List Addr} (h : Hs W H G n) (g : Go W H G H1 G1) {n1 : Int} (h1 : Hs W H1 G1 n1) (o : OwNs W H H1 G1 l vs L) (e : q (.own l) n1) {p : Addr} (hp : H1 p = none) : Q (.ref p) (upd H1 p (.lst vs)) := by
  have g2 := Go.owned (W := W) (G := G1) (.lst vs) hp
  have o2 := o.go h g2
  refine k (.own l) n1 (.ref p) _ _ (p :: L) (g.trans g2) (h1.owned _ hp) ⟨?_, List.nodup_cons.mpr ⟨fun z => ?_, o.nd⟩, fun b hb => ?_⟩ e
  · unfold Ow
    exact ⟨p, vs, L, rfl, upd_same, rfl, o2.ow⟩
  · obtain ⟨xs, e⟩ := Ows.lists _ o.ow p z
    rw [hp] at e
    cases e
  · rcases List.mem_cons.mp hb with z | z
    · rw [z]
      exact ⟨g.dom p hp, h1.gnone hp⟩
    · exact o2.fr b z
theorem re_tup {t : TA} {f : DA} (a : RA t f) : RE (tTup t) (dTup f) := fun W D σ H G n q Q s h e k =>
  a W D σ H G n _ _ s h e fun xs n1 vs H1 G1 L g h1 o ⟨z, e1⟩ => ⟨by rw [o.ow.len]; exact z, fun p hp => k.newT h g h1 o e1 hp⟩
theorem re_lst {t : TA} {f : DA} (a : RA t f) : RE (tLst t) (dLst f) := fun W D σ H G n q Q s h e k =>
  a W D σ H G n _ _ s h e fun xs n1 vs H1 G1 L g h1 o ⟨z, e1⟩ => ⟨by rw [o.ow.len]; exact z, fun p hp => k.newL h g h1 o e1 hp⟩
/-! tests -/
def dTest (f : DE) : DT := fun D n Q => f D n fun x n1 => ∃ b, x = .bl b ∧ Q b n1
theorem re_bool {t : TE} {f : DE} (a : RE t f) {W : Wd} {D : DSt} {σ : L2.St} {H G : Hp} {n : Int} {q : Bool → Int → Prop} {R : VK} (s : SlD G W D σ) (h : Hs W H G n) (e : dTest f D n q) (k : ∀ b n1 H1 G1, Go W H G H1 G1 → Hs W H1 G1 n1 → q b n1 → R (.bl b) H1) : t σ H R :=
  a W D σ H G n _ _ s h e fun x n1 vx H1 G1 L1 g1 h1 ox ⟨b, eb, e1⟩ => by
    subst eb
    have o := ox.ow
    unfold Ow at o
    rw [o.1]
    exact k b n1 H1 G1 g1 h1 e1
theorem rt_test {t : TE} {f : DE} (a : RE t f) : RT (tTest t) (dTest f) := fun W D σ H G n q Q s h e k => re_bool a s h e fun b n1 H1 G1 g1 h1 e1 => ⟨b, rfl, k b n1 H1 G1 g1 h1 e1⟩
theorem rt_b {t : TE} {f : DE} (a : RE t f) : RT (tB t) (dTest f) := fun W D σ H G n q Q s h e k => re_bool a s h e fun b n1 H1 G1 g1 h1 e1 => ⟨b, rfl, k b n1 H1 G1 g1 h1 e1⟩
def dAnd (f g : DT) : DT := fun D n Q => f D n fun c n1 => if c = true then g D n1 Q else Q false n1
def dOr (f g : DT) : DT := fun D n Q => f D n fun c n1 => if c = true then Q true n1 else g D n1 Q
def dNot (f : DT) : DT := fun D n Q => f D n fun c n1 => Q (!c) n1
theorem rt_and {t u : TT} {f g : DT} (a : RT t f) (b : RT u g) : RT (tAnd t u) (dAnd f g) := fun W D σ H G n q Q s h e k => a W D σ H G n _ _ s h e fun c n1 H1 G1 g1 h1 e1 => by
  cases c with
  | true => exact iteT (b W D σ H1 G1 n1 q Q (s.mono g1.grow) h1 e1 (k.go g1))
  | false => exact iteF (k false n1 H1 G1 g1 h1 e1)
theorem rt_or {t u : TT} {f g : DT} (a : RT t f) (b : RT u g) : RT (tOr t u) (dOr f g) := fun W D σ H G n q Q s h e k => a W D σ H G n _ _ s h e fun c n1 H1 G1 g1 h1 e1 => by
  cases c with
  | true => exact iteT (k true n1 H1 G1 g1 h1 e1)
  | false => exact iteF (b W D σ H1 G1 n1 q Q (s.mono g1.grow) h1 e1 (k.go g1))
theorem rt_not {t : TT} {f : DT} (a : RT t f) : RT (tNot t) (dNot f) := fun W D σ H G n q Q s h e k => a W D σ H G n _ _ s h e fun c n1 H1 G1 g1 h1 e1 => k (!c) n1 H1 G1 g1 h1 e1
def dAndV (f g : DE) : DE := fun D n Q => f D n fun x n1 => ∃ c, x = .bl c ∧ if c = true then g D n1 Q else Q (.bl false) n1
def dOrV (f g : DE) : DE := fun D n Q => f D n fun x n1 => ∃ c, x = .bl c ∧ if c = true then Q (.bl true) n1 else g D n1 Q
def dNotV (f : DE) : DE := fun D n Q => f D n fun x n1 => ∃ c, x = .bl c ∧ Q (.bl (!c)) n1
theorem re_and {t u : TE} {f g : DE} (a : RE t f) (b : RE u g) : RE (tAndV t u) (dAndV f g) := fun W D σ H G n q Q s h e k => re_bool (q := fun c n1 => if c = true then g D n1 q else q (.bl false) n1) a s h e fun c n1 H1 G1 g1 h1 e1 => ⟨c, rfl, by
  cases c with
  | true => exact iteT (b W D σ H1 G1 n1 q Q (s.mono g1.grow) h1 e1 (k.go g1))
  | false => exact iteF ((k.go g1).here h1 (by unfold Dv; rfl) e1)⟩
theorem re_or {t u : TE} {f g : DE} (a : RE t f) (b : RE u g) : RE (tOrV t u) (dOrV f g) := fun W D σ H G n q Q s h e k => re_bool (q := fun c n1 => if c = true then q (.bl true) n1 else g D n1 q) a s h e fun c n1 H1 G1 g1 h1 e1 => ⟨c, rfl, by
  cases c with
  | true => exact iteT ((k.go g1).here h1 (by unfold Dv; rfl) e1)
  | false => exact iteF (b W D σ H1 G1 n1 q Q (s.mono g1.grow) h1 e1 (k.go g1))⟩
theorem re_not {t : TE} {f : DE} (a : RE t f) : RE (tNotV t) (dNotV f) := fun W D σ H G n q Q s h e k => re_bool (q := fun c n1 => q (.bl (!c)) n1) a s h e fun c n1 H1 G1 g1 h1 e1 => ⟨c, rfl, (k.go g1).here h1 (by unfold Dv; rfl) e1⟩
def dIf (c : DT) (f g : DE) : DE := fun D n Q => c D n fun b n1 => if b = true then f D n1 Q else g D n1 Q
theorem re_if {c : TT} {t u : TE} {fc : DT} {f g : DE} (rc : RT c fc) (a : RE t f) (b : RE u g) : RE (tIf c t u) (dIf fc f g) := fun W D σ H G n q Q s h e k => rc W D σ H G n _ _ s h e fun c n1 H1 G1 g1 h1 e1 => by
  cases c with
  | true => exact iteT (a W D σ H1 G1 n1 q Q (s.mono g1.grow) h1 e1 (k.go g1))
  | false => exact iteF (b W D σ H1 G1 n1 q Q (s.mono g1.grow) h1 e1 (k.go g1))
/-- a op b op' c -/
def dChain (r r' : Dat → Dat → (Dat → Prop) → Prop) (fa fb fc : DE) : DE := fun D n Q => fa D n fun x n1 => fb D n1 fun y n2 => r x.sh y.sh fun z => ∃ k, z = .bl k ∧ if k = true then fc D n2 fun w n3 => r' y.sh w.sh fun d => Q d n3 else Q (.bl false) n2
theorem re_chain {r r' : R2} {rd rd' : Dat → Dat → (Dat → Prop) → Prop} {ta tb tc : TE} {fa fb fc : DE} (o : OpD r rd) (o' : OpD r' rd') (a : RE ta fa) (b : RE tb fb) (c : RE tc fc) : RE (tChain r r' ta tb tc) (dChain rd rd' fa fb fc) := fun W D σ H G n q Q s h e k =>
  a.s (q := fun x n1 => fb D n1 fun y n2 => rd x y.sh fun z => ∃ k, z = .bl k ∧ if k = true then fc D n2 fun w n3 => rd' y.sh w.sh fun d => q d n3 else q (.bl false) n2) s h e fun x n1 vx H1 G1 g1 h1 ox e1 =>
  b.s (q := fun y n2 => rd x y fun z => ∃ k, z = .bl k ∧ if k = true then fc D n2 fun w n3 => rd' y w.sh fun d => q d n3 else q (.bl false) n2) (s.mono g1.grow) h1 e1 fun y n2 vy H2 G2 g2 h2 oy e2 =>
    o W H2 G2 n2 vx vy x y _ _ h2 (Dv.mono g2.grow _ ox) oy e2 fun d n' v H' G' L g h' ow ⟨en, c0, ed, e3⟩ => by
      subst en ed
      have oo := ow.ow
      unfold Ow at oo
      have gg := (g1.trans g2).trans g
      refine ⟨c0, oo.1, ?_⟩
      cases c0 with
      | true =>
        refine iteT (c.s (q := fun w n3 => rd' y w fun d => q d n3) (s.mono gg.grow) h' e3 fun z n3 vz H3 G3 g3 h3 oz e4 => ?_)
        exact o' W H3 G3 n3 vy vz y z _ Q h3 (Dv.mono (g.grow.trans g3.grow) _ oy) oz e4 fun d n4 v H4 G4 L4 g4 h4 ow4 ⟨en, eq⟩ => by
          subst en
          exact k d n4 v H4 G4 L4 ((gg.trans g3).trans g4) h4 (ow4.older (gg.trans g3)) eq
      | false => exact iteF ((k.go gg).here h' (by unfold Dv; rfl) e3)
end DL
set_option Elab.async false
set_option linter.all false
set_option maxRecDepth 100000
set_option maxHeartbeats 4000000
/-! operations and built-ins by data alone -/
namespace DL
open PySem PySem.Spec PySem.W PyProof.Rows L2
variable [TabsOf]
theorem ke_n {W : Wd} {H G : Hp} {n : Int} {q : Dat → Prop} {Q : VK} (k : KE W H G (fun d n' => n' = n ∧ q d) Q) {d : Dat} {v : V} (h : Hs W H G n) (o : Dv G W d v) (e : q d) : Q v H := k.here h o ⟨rfl, e⟩
/-! whole numbers -/
def dI (C : Int → Int → Prop) (g : Int → Int → Dat) : Dat → Dat → (Dat → Prop) → Prop
  | .int i, .int j, Q => C i j ∧ Q (g i j)
  | _, _, _ => False
def dI0 (g : Int → Int → Dat) : Dat → Dat → (Dat → Prop) → Prop
  | .int i, .int j, Q => Q (g i j)
  | _, _, _ => False
theorem opd_i {C : Int → Int → Prop} {g : Int → Int → Int} : OpD (rI C fun i j => .int (g i j)) (dI C fun i j => .int (g i j)) := fun W H G n x y a b q Q h ha hb e k => by
  unfold dI at e
  split at e
  · unfold Dv at ha hb
    exact ⟨_, _, ha, hb, e.1, ke_n k h (by unfold Dv; rfl) e.2⟩
  · exact e.elim
theorem opd_i0 {g : Int → Int → Int} : OpD (rI0 fun i j => .int (g i j)) (dI0 fun i j => .int (g i j)) := fun W H G n x y a b q Q h ha hb e k => by
  unfold dI0 at e
  split at e
  · unfold Dv at ha hb
    exact ⟨_, _, ha, hb, ke_n k h (by unfold Dv; rfl) e⟩
  · exact e.elim
theorem opd_b0 {g : Int → Int → Bool} : OpD (rI0 fun i j => .bl (g i j)) (dI0 fun i j => .bl (g i j)) := fun W H G n x y a b q Q h ha hb e k => by
  unfold dI0 at e
  split at e
  · unfold Dv at ha hb
    exact ⟨_, _, ha, hb, ke_n k h (by unfold Dv; rfl) e⟩
  · exact e.elim
theorem opd_or {r r' : R2} {f g h : Dat → Dat → (Dat → Prop) → Prop} (a : OpD r f) (b : OpD r' g) (s : ∀ x y Q, h x y Q → f x y Q ∨ g x y Q) : OpD (fun x y H Q => r x y H Q ∨ r' x y H Q) h := fun W H G n x y c d q Q hh ha hb e k =>
  (s _ _ _ e).elim (fun z => .inl (a W H G n x y c d q Q hh ha hb z k)) (fun z => .inr (b W H G n x y c d q Q hh ha hb z k))
def dU (g : Int → Dat) : Dat → (Dat → Prop) → Prop
  | .int i, Q => Q (g i)
  | _, _ => False
theorem und_i {g : Int → Int} : UnD (rU fun i => .int (g i)) (dU fun i => .int (g i)) := fun W H G n x a q Q h ha e k => by
  unfold dU at e
  split at e
  · unfold Dv at ha
    exact ⟨_, ha, ke_n k h (by unfold Dv; rfl) e⟩
  · exact e.elim
/-! the items of a list, a tuple -/
def Dat.items : Dat → Option (List Dat)
  | .lst l => some l
  | .tup l => some l
  | .own l => some l
  | _ => none
theorem Dv.seq {K : Frag} {W : Wd} {H G : Hp} (le : Same G H) {d : Dat} {v : V} {l : List Dat} (h : Dv G W d v) (e : d.items = some l) : ∃ (a : Addr) (xs : List V), v = .ref a ∧ ((d = .lst l ∧ G a = some (.lst xs) ∧ SqL K H a xs) ∨ (d = .tup l ∧ G a = some (.tup xs) ∧ SqT K H a xs)) ∧ Dvs G W l xs := by
  cases d with
  | lst m =>
    cases e
    unfold Dv at h
    obtain ⟨a, xs, rfl, h1, h2⟩ := h
    exact ⟨a, xs, rfl, .inl ⟨rfl, h1, SqL.of (le _ _ h1)⟩, h2⟩
  | tup m =>
    cases e
    unfold Dv at h
    obtain ⟨a, xs, rfl, h1, h2⟩ := h
    exact ⟨a, xs, rfl, .inr ⟨rfl, h1, SqT.of (le _ _ h1)⟩, h2⟩
  | own m => unfold Dv at h; exact h.elim
  | _ => cases e
/-! +: numbers, lists, texts, tuples -/
def rPlus (K : Frag) : R2 := fun x y H Q => rI0 (fun i j => .int (i + j)) x y H Q ∨ (rCat x y H Q ∨ (∃ i j, x = .str i ∧ y = .str j ∧ i.length + j.length ≤ sizeLine ∧ Q (.str (i ++ j)) H) ∨ rCatA K x y H Q)
theorem op_plus {X : Cx} : OpR X (binaryOp .Add) (rPlus X.K) := op_add.or (op_cat.or (op_add_str.or op_catA))
def dPlus : Dat → Dat → (Dat → Prop) → Prop
  | .int i, .int j, Q => Q (.int (i + j))
  | .str i, .str j, Q => i.length + j.length ≤ sizeLine ∧ Q (.str (i ++ j))
  | .lst l, .lst m, Q => l.length + m.length ≤ sizeLine ∧ Q (.own (l ++ m))
  | .tup l, .tup m, Q => l.length + m.length ≤ sizeLine ∧ Q (.tup (l ++ m))
  | _, _, _ => False
/-- a new list of shared things -/
theorem KE.newS {W : Wd} {H G : Hp} {n : Int} {q : Dat → Int → Prop} {Q : VK} (k : KE W H G q Q) {l : List Dat} {vs : List V} (h : Hs W H G n) (o : Dvs G W l vs) (e : q (.own l) n) {p : Addr} (hp : H p = none) : Q (.ref p) (upd H p (.lst vs)) :=
  k.newL h Go.refl h ⟨Ows.of_dvs l o, List.nodup_nil, fun b hb => by cases hb⟩ e hp
theorem KE.newTS {W : Wd} {H G : Hp} {n : Int} {q : Dat → Int → Prop} {Q : VK} (k : KE W H G q Q) {l : List Dat} {vs : List V} (h : Hs W H G n) (o : Dvs G W l vs) (e : q (.tup l) n) {p : Addr} (hp : H p = none) : Q (.ref p) (upd H p (.tup vs)) :=
  k.newT h Go.refl h ⟨Ows.of_dvs l o, List.nodup_nil, fun b hb => by cases hb⟩ e hp
theorem opd_plus {K : Frag} : OpD (rPlus K) dPlus := fun W H G n x y a b q Q h ha hb e k => by
  unfold dPlus at e
  split at e
  · unfold Dv at ha hb
    exact .inl ⟨_, _, ha, hb, ke_n k h (by unfold Dv; rfl) e⟩
  · unfold Dv at ha hb
    exact .inr (.inr (.inl ⟨_, _, ha, hb, e.1, ke_n k h (by unfold Dv; rfl) e.2⟩))
  · unfold Dv at ha hb
    obtain ⟨p, xs, rfl, h1, o1⟩ := ha
    obtain ⟨r, ys, rfl, h2, o2⟩ := hb
    refine .inr (.inl ⟨p, r, xs, ys, rfl, rfl, h.le _ _ h1, h.le _ _ h2, by rw [o1.len, o2.len]; exact e.1, fun t ht => ?_⟩)
    exact k.newS h (o1.app o2) ⟨rfl, e.2⟩ ht
  · have ha0 := ha
    have hb0 := hb
    unfold Dv at ha hb
    obtain ⟨p, xs, rfl, h1, o1⟩ := ha
    obtain ⟨r, ys, rfl, h2, o2⟩ := hb
    refine .inr (.inr (.inr ⟨p, r, xs, ys, rfl, rfl, SqT.of (h.le _ _ h1), SqT.of (h.le _ _ h2), by rw [o1.len, o2.len]; exact e.1, fun z => ?_, fun _ z => ?_, fun _ _ t ht => ?_⟩))
    · rename_i _ l m
      have : l = [] := List.length_eq_zero_iff.mp (by rw [← o1.len, z]; rfl)
      subst this
      exact ke_n k h hb0 e.2
    · rename_i l m _
      have : m = [] := List.length_eq_zero_iff.mp (by rw [← o2.len, z]; rfl)
      subst this
      have e2 := e.2
      rw [List.append_nil] at e2
      exact ke_n k h ha0 e2
    · exact k.newTS h (o1.app o2) ⟨rfl, e.2⟩ ht
  · exact e.elim
/-! *: numbers, a list times a number -/
def rTimes : R2 := fun x y H Q => rI CMul (fun i j => .int (i * j)) x y H Q ∨ rRep x y H Q
theorem op_times {X : Cx} : OpR X (binaryOp .Mult) rTimes := op_mul.or op_rep
def dTimes : Dat → Dat → (Dat → Prop) → Prop
  | .int i, .int j, Q => CMul i j ∧ Q (.int (i * j))
  | .lst l, .int k, Q => (-(2 ^ 63) ≤ k ∧ k < 2 ^ 63 ∧ l.length * k.toNat ≤ sizeLine) ∧ Q (.own (List.replicate k.toNat l).flatten)
  | _, _, _ => False
theorem Dvs.rep {G : Hp} {W : Wd} {l : List Dat} {xs : List V} (h : Dvs G W l xs) : ∀ k : Nat, Dvs G W (List.replicate k l).flatten (List.replicate k xs).flatten
  | 0 => by
    rw [List.replicate_zero, List.replicate_zero]
    unfold List.flatten Dvs
    rfl
  | k + 1 => by
    rw [List.replicate_succ, List.replicate_succ, List.flatten_cons, List.flatten_cons]
    exact h.app (h.rep k)
theorem opd_times : OpD rTimes dTimes := fun W H G n x y a b q Q h ha hb e k => by
  unfold dTimes at e
  split at e
  · unfold Dv at ha hb
    exact .inl ⟨_, _, ha, hb, e.1, ke_n k h (by unfold Dv; rfl) e.2⟩
  · unfold Dv at ha hb
    obtain ⟨p, xs, rfl, h1, o1⟩ := ha
    refine .inr ⟨p, _, xs, rfl, hb, h.le _ _ h1, e.1.1, e.1.2.1, by rw [o1.len]; exact e.1.2.2, fun t ht => ?_⟩
    exact k.newS h (o1.rep _) ⟨rfl, e.2⟩ ht
  · exact e.elim
/-! ==, !=, is None -/
mutual
def Dat.toP : Dat → PyData
  | .bl b => .bool b
  | .int i => .int i
  | .str s => .str s
  | .lst l => .list (toPs l)
  | .own l => .list (toPs l)
  | .tup l => .tuple (toPs l)
  | .non => .none
  | .strm => .none
  | .fn _ => .none
def toPs : List Dat → List PyData
  | [] => []
  | d :: l => d.toP :: toPs l
end
mutual
/-- data alone: no stream, no def -/
def Dat.pl : Dat → Bool
  | .lst l => pls l
  | .own l => pls l
  | .tup l => pls l
  | .strm => false
  | .fn _ => false
  | .non => true
  | .bl _ => true
  | .int _ => true
  | .str _ => true
def pls : List Dat → Bool
  | [] => true
  | d :: l => d.pl && pls l
end
mutual
theorem Dv.dp {K : Frag} {W : Wd} {H G : Hp} (le : Same G H) : ∀ (d : Dat) {v : V}, d.pl = true → Dv G W d v → Dp K H v d.toP
  | .non, _, _, h => by unfold Dv at h; subst h; unfold Dat.toP; exact .non
  | .bl b, _, _, h => by unfold Dv at h; subst h; unfold Dat.toP; exact .bl b
  | .int b, _, _, h => by unfold Dv at h; subst h; unfold Dat.toP; exact .int b
  | .str b, _, _, h => by unfold Dv at h; subst h; unfold Dat.toP; exact .str b
  | .lst l, v, e, h => by
    unfold Dv at h
    unfold Dat.pl at e
    unfold Dat.toP
    obtain ⟨a, xs, rfl, h, r⟩ := h
    exact .lst (SqL.of (le _ _ h)) (Dvs.dps le l e r)
  | .tup l, v, e, h => by
    unfold Dv at h
    unfold Dat.pl at e
    unfold Dat.toP
    obtain ⟨a, xs, rfl, h, r⟩ := h
    exact .tup (SqT.of (le _ _ h)) (Dvs.dps le l e r)
  | .own l, _, _, h => by unfold Dv at h; exact h.elim
  | .strm, _, e, h => by cases e
  | .fn a, _, e, h => by cases e
theorem Dvs.dps {K : Frag} {W : Wd} {H G : Hp} (le : Same G H) : ∀ (l : List Dat) {xs : List V}, pls l = true → Dvs G W l xs → DpAll K H xs (toPs l)
  | [], _, _, h => by unfold Dvs at h; subst h; unfold toPs; exact .nil
  | d :: l, xs, e, h => by
    unfold Dvs at h
    unfold pls at e
    rw [Bool.and_eq_true] at e
    unfold toPs
    obtain ⟨x, r, rfl, h1, h2⟩ := h
    exact .cons (Dv.dp le d e.1 h1) (Dvs.dps le l e.2 h2)
end
/-- may be compared -/
def Dat.eqOk (d : Dat) : Prop := d.pl = true ∧ SeqAt.shaped d.toP = true
def Dat.eqb (a b : Dat) : Bool := PyData.eqv a.toP b.toP
def rEqs (K : Frag) : R2 := fun x y H Q => rEq x y H Q ∨ rEqD K x y H Q
def rNes (K : Frag) : R2 := fun x y H Q => rNe x y H Q ∨ rNeD K x y H Q
theorem op_eqs {X : Cx} (hu : X.A.units + 64 < cLine) : OpR X (compareOp .Eq) (rEqs X.K) := op_eq.or (op_eqD hu)
theorem op_nes {X : Cx} (hu : X.A.units + 64 < cLine) : OpR X (compareOp .NotEq) (rNes X.K) := op_ne.or (op_neD hu)
def dEq : Dat → Dat → (Dat → Prop) → Prop
  | .int i, .int j, Q => Q (.bl (decide (i = j)))
  | .str i, .str j, Q => Q (.bl (decide (i = j)))
  | .bl i, .bl j, Q => Q (.bl (decide (i = j)))
  | .int _, .str _, Q => Q (.bl false)
  | .str _, .int _, Q => Q (.bl false)
  | a, b, Q => (a.eqOk ∧ b.eqOk) ∧ Q (.bl (a.eqb b))
def dNe : Dat → Dat → (Dat → Prop) → Prop
  | .int i, .int j, Q => Q (.bl (!decide (i = j)))
  | .str i, .str j, Q => Q (.bl (!decide (i = j)))
  | .bl i, .bl j, Q => Q (.bl (!decide (i = j)))
  | .int _, .str _, Q => Q (.bl true)
  | .str _, .int _, Q => Q (.bl true)
  | a, b, Q => (a.eqOk ∧ b.eqOk) ∧ Q (.bl (!a.eqb b))
theorem vdec {α : Type} [DecidableEq α] {f : α → V} (inj : ∀ x y, f x = f y → x = y) (i j : α) : decide (f i = f j) = decide (i = j) := decide_eq_decide.mpr ⟨inj i j, fun z => by rw [z]⟩
theorem opd_eq {K : Frag} : OpD (rEqs K) dEq := fun W H G n x y a b q Q h ha hb e k => by
  unfold dEq at e
  split at e
  · unfold Dv at ha hb
    subst ha hb
    exact .inl ⟨rfl, by rw [vdec (f := V.int) (fun x y z => V.int.inj z)]; exact ke_n k h (by unfold Dv; rfl) e⟩
  · unfold Dv at ha hb
    subst ha hb
    exact .inl ⟨rfl, by rw [vdec (f := V.str) (fun x y z => V.str.inj z)]; exact ke_n k h (by unfold Dv; rfl) e⟩
  · unfold Dv at ha hb
    subst ha hb
    exact .inl ⟨rfl, by rw [vdec (f := V.bl) (fun x y z => V.bl.inj z)]; exact ke_n k h (by unfold Dv; rfl) e⟩
  · unfold Dv at ha hb
    subst ha hb
    exact .inl ⟨rfl, ke_n k h (by unfold Dv; rfl) e⟩
  · unfold Dv at ha hb
    subst ha hb
    exact .inl ⟨rfl, ke_n k h (by unfold Dv; rfl) e⟩
  · exact .inr ⟨_, _, Dv.dp h.le _ e.1.1.1 ha, Dv.dp h.le _ e.1.2.1 hb, e.1.1.2, e.1.2.2, ke_n k h (by unfold Dv; rfl) e.2⟩
theorem opd_ne {K : Frag} : OpD (rNes K) dNe := fun W H G n x y a b q Q h ha hb e k => by
  unfold dNe at e
  split at e
  · unfold Dv at ha hb
    subst ha hb
    exact .inl ⟨rfl, by rw [vdec (f := V.int) (fun x y z => V.int.inj z)]; exact ke_n k h (by unfold Dv; rfl) e⟩
  · unfold Dv at ha hb
    subst ha hb
    exact .inl ⟨rfl, by rw [vdec (f := V.str) (fun x y z => V.str.inj z)]; exact ke_n k h (by unfold Dv; rfl) e⟩
  · unfold Dv at ha hb
    subst ha hb
    exact .inl ⟨rfl, by rw [vdec (f := V.bl) (fun x y z => V.bl.inj z)]; exact ke_n k h (by unfold Dv; rfl) e⟩
  · unfold Dv at ha hb
    subst ha hb
    exact .inl ⟨rfl, ke_n k h (by unfold Dv; rfl) e⟩
  · unfold Dv at ha hb
    subst ha hb
    exact .inl ⟨rfl, ke_n k h (by unfold Dv; rfl) e⟩
  · exact .inr ⟨_, _, Dv.dp h.le _ e.1.1.1 ha, Dv.dp h.le _ e.1.2.1 hb, e.1.1.2, e.1.2.2, ke_n k h (by unfold Dv; rfl) e.2⟩
def Dat.isNon : Dat → Bool
  | .non => true
  | _ => false
theorem Ow.isN {H G : Hp} {W : Wd} {d : Dat} {v : V} {L : List Addr} (h : Ow H G W d v L) : decide (v = .non) = d.isNon := by
  cases d <;> unfold Ow at h
  · rw [h.1]; rfl
  · rw [h.1]; rfl
  · rw [h.1]; rfl
  · rw [h.1]; rfl
  · obtain ⟨⟨a, xs, rfl, _⟩, _⟩ := h; rfl
  · obtain ⟨a, xs, rfl, _⟩ := h; rfl
  · obtain ⟨a, xs, M, rfl, _⟩ := h; rfl
  · rw [h.1.1]; rfl
  · rw [h.1]; rfl
def dIsN (f : DE) : DE := fun D n Q => f D n fun x n1 => Q (.bl x.isNon) n1
def dNotN (f : DE) : DE := fun D n Q => f D n fun x n1 => Q (.bl (!x.isNon)) n1
theorem re_isN {t : TE} {f : DE} (a : RE t f) : RE (tIsN t) (dIsN f) := fun W D σ H G n q Q s h e k => a W D σ H G n _ _ s h e fun d n1 v H1 G1 L1 g1 h1 o e1 => by
  rw [o.ow.isN]
  exact (k.go g1).here h1 (by unfold Dv; rfl) e1
theorem re_notN {t : TE} {f : DE} (a : RE t f) : RE (tNotN t) (dNotN f) := fun W D σ H G n q Q s h e k => a W D σ H G n _ _ s h e fun d n1 v H1 G1 L1 g1 h1 o e1 => by
  rw [o.ow.isN]
  exact (k.go g1).here h1 (by unfold Dv; rfl) e1
/-! subscripts -/
def atD (l : List Dat) (i : Int) (Q : Dat → Prop) : Prop := ∃ d, atI l i = some d ∧ Q d
def dIx : Dat → Dat → (Dat → Prop) → Prop
  | .lst l, .int i, Q => atD l i Q
  | .tup l, .int i, Q => atD l i Q
  | .str z, .int i, Q => z.length ≤ sizeLine ∧ ∃ c, atI z.cps.toList i = some c ∧ Q (.str ⟨#[c]⟩)
  | _, _, _ => False
theorem Dvs.atI {G : Hp} {W : Wd} {l : List Dat} {xs : List V} {i : Int} {d : Dat} (o : Dvs G W l xs) (e : L2.atI l i = some d) : ∃ x, L2.atI xs i = some x ∧ Dv G W d x := by
  unfold L2.atI at *
  rw [o.len]
  cases q : ixN l.length i with
  | none => rw [q] at e; cases e
  | some j =>
    rw [q] at e
    exact o.get e
theorem opd_ix {K : Frag} : OpD (rIx K) dIx := fun W H G n x y a b q Q h ha hb e k => by
  unfold dIx at e
  split at e
  · unfold Dv at ha hb
    obtain ⟨p, xs, rfl, h1, o1⟩ := ha
    obtain ⟨d, e1, e2⟩ := e
    obtain ⟨z, e3, o2⟩ := o1.atI e1
    exact .inl ⟨p, xs, _, z, rfl, hb, SqL.of (h.le _ _ h1), e3, ke_n k h o2 e2⟩
  · unfold Dv at ha hb
    obtain ⟨p, xs, rfl, h1, o1⟩ := ha
    obtain ⟨d, e1, e2⟩ := e
    obtain ⟨z, e3, o2⟩ := o1.atI e1
    exact .inr (.inl ⟨p, xs, _, z, rfl, hb, SqT.of (h.le _ _ h1), e3, ke_n k h o2 e2⟩)
  · unfold Dv at ha hb
    obtain ⟨e0, c, e1, e2⟩ := e
    exact .inr (.inr ⟨_, _, c, ha, hb, e0, e1, ke_n k h (by unfold Dv; rfl) e2⟩)
  · exact e.elim
/-! slices -/
abbrev DO := DSt → Int → (Option Int → Int → Prop) → Prop
def RO (t : TO) (f : DO) : Prop := ∀ (W : Wd) (D : DSt) (σ : L2.St) (H G : Hp) (n : Int) (q : Option Int → Int → Prop) (Q : Option Int → Hp → Prop), SlD G W D σ → Hs W H G n → f D n q → (∀ o n' H' G', Go W H G H' G' → Hs W H' G' n' → q o n' → Q o H') → t σ H Q
def dNoPart : DO := fun _ n Q => Q none n
def dPart (f : DE) : DO := fun D n Q => f D n fun x n1 => ∃ i, x = .int i ∧ Q (some i) n1
theorem ro_none : RO tNoPart dNoPart := fun W D σ H G n q Q s h e k => k none n H G Go.refl h e
theorem ro_some {t : TE} {f : DE} (a : RE t f) : RO (tPart t) (dPart f) := fun W D σ H G n q Q s h e k => a W D σ H G n _ _ s h e fun d n1 v H1 G1 L1 g1 h1 o ⟨i, ed, e1⟩ => by
  subst ed
  have o := o.ow
  unfold Ow at o
  exact ⟨i, o.1, k _ n1 H1 G1 g1 h1 e1⟩
def cutD (l : List Dat) (lo hi : Option Int) : List Dat := (l.drop (HT.sIx l.length 0 lo)).take (HT.sIx l.length l.length hi - HT.sIx l.length 0 lo)
theorem Dvs.cut {G : Hp} {W : Wd} {l : List Dat} {xs : List V} (o : Dvs G W l xs) (lo hi : Option Int) : Dvs G W (cutD l lo hi) (cutV xs lo hi) := by
  unfold cutD cutV
  rw [o.len]
  exact Dvs.take _ (Dvs.drop _ o)
def rSls (K : Frag) : V → Option Int → Option Int → Hp → VK → Prop := fun x lo hi H Q => rSlL K x lo hi H Q ∨ (rSlA K x lo hi H Q ∨ (∃ z, x = .str z ∧ z.length ≤ sizeLine ∧ Q (.str (cutS z lo hi)) H))
def dSlR : Dat → Option Int → Option Int → (Dat → Prop) → Prop
  | .lst l, lo, hi, Q => Q (.own (cutD l lo hi))
  | .tup l, lo, hi, Q => Q (.tup (cutD l lo hi))
  | .str z, lo, hi, Q => z.length ≤ sizeLine ∧ Q (.str (cutS z lo hi))
  | _, _, _, _ => False
def dSl (f : DE) (g g' : DO) : DE := fun D n Q => f D n fun x n1 => g D n1 fun lo n2 => g' D n2 fun hi n3 => dSlR x.sh lo hi fun d => Q d n3
theorem re_sl {K : Frag} {t : TE} {f : DE} {tl th : TO} {g g' : DO} (a : RE t f) (b : RO tl g) (c : RO th g') : RE (tSl (rSls K) t tl th) (dSl f g g') := fun W D σ H G n q Q s h e k =>
  a.s (q := fun x n1 => g D n1 fun lo n2 => g' D n2 fun hi n3 => dSlR x lo hi fun d => q d n3) s h e fun x n1 vx H1 G1 g1 h1 ox e1 =>
    b W D σ H1 G1 n1 _ _ (s.mono g1.grow) h1 e1 fun lo n2 H2 G2 g2 h2 e2 => c W D σ H2 G2 n2 _ _ (s.mono (g1.grow.trans g2.grow)) h2 e2 fun hi n3 H3 G3 g3 h3 e3 => by
      have gg := (g1.trans g2).trans g3
      have k3 := k.go gg
      have o3 := Dv.mono (g2.grow.trans g3.grow) _ ox
      unfold dSlR at e3
      split at e3
      · unfold Dv at o3
        obtain ⟨p, xs, rfl, h4, o4⟩ := o3
        exact .inl ⟨p, xs, rfl, SqL.of (h3.le _ _ h4), fun t ht => k3.newS h3 (o4.cut _ _) e3 ht⟩
      · unfold Dv at o3
        obtain ⟨p, xs, rfl, h4, o4⟩ := o3
        refine .inr (.inl ⟨p, xs, rfl, SqT.of (h3.le _ _ h4), fun w => ?_, fun _ t ht => k3.newTS h3 (o4.cut _ _) e3 ht⟩)
        refine k3.here h3 ?_ e3
        have hl := o4.len
        rw [hl] at w
        unfold cutD
        rw [w.1, w.2, List.drop_zero, Nat.sub_zero, List.take_length]
        unfold Dv
        exact ⟨p, xs, rfl, h4, o4⟩
      · unfold Dv at o3
        exact .inr (.inr ⟨_, o3, e3.1, k3.here h3 (by unfold Dv; rfl) e3.2⟩)
      · exact e3.elim
end DL
set_option Elab.async false
set_option linter.all false
set_option maxRecDepth 100000
set_option maxHeartbeats 4000000
/-! what is walked, comprehensions, stars -/
namespace DL
open PySem PySem.Spec PySem.W PyProof.Rows L2
variable [TabsOf]
theorem Dvs.nil {G : Hp} {W : Wd} : Dvs G W [] [] := by unfold Dvs; rfl
theorem Dvs.cons {G : Hp} {W : Wd} {d : Dat} {x : V} {l : List Dat} {r : List V} (a : Dv G W d x) (b : Dvs G W l r) : Dvs G W (d :: l) (x :: r) := by unfold Dvs; exact ⟨x, r, rfl, a, b⟩
theorem dv_int {G : Hp} {W : Wd} {i : Int} : Dv G W (.int i) (.int i) := by unfold Dv; rfl
/-- what J walks: l -/
def ItD (J : It) (W : Wd) (G : Hp) (l : List Dat) : Prop := ∃ (Gp : Hp → Prop) (Y : Nat → Hp → V → Hp → Prop), Walk J l.length Gp Y ∧ (∀ H, Same G H → Gp H) ∧
  ∀ (i : Nat) (H : Hp) (x : V) (H' : Hp), i < l.length → Same G H → Y i H x H' → (H' = H ∧ ∃ d, l[i]? = some d ∧ Dv G W d x) ∨ ∃ T vs ds, x = .ref T ∧ H T = none ∧ H' = upd H T (.tup vs) ∧ l[i]? = some (.tup ds) ∧ Dvs G W ds vs
theorem itd_list {K : Frag} {W : Wd} {G : Hp} {a : Addr} {xs : List V} {l : List Dat} (h : G a = some (.lst xs)) (o : Dvs G W l xs) : ItD (Itl K a) W G l :=
  ⟨fun H => SqL K H a xs, YAt xs, by rw [← o.len]; exact walk_list (K := K), fun H s => SqL.of (s _ _ h), fun i H x H' hi s y => .inl ⟨y.1, o.at y.2⟩⟩
theorem itd_tup {K : Frag} {W : Wd} {G : Hp} {a : Addr} {xs : List V} {l : List Dat} (h : G a = some (.tup xs)) (o : Dvs G W l xs) : ItD (Itt K a) W G l :=
  ⟨fun H => SqT K H a xs, YAt xs, by rw [← o.len]; exact walk_tup (K := K), fun H s => SqT.of (s _ _ h), fun i H x H' hi s y => .inl ⟨y.1, o.at y.2⟩⟩
def rngD (lo : Int) (n : Nat) : List Dat := (List.range n).map fun i : Nat => Dat.int (lo + i)
theorem itd_range {W : Wd} {G : Hp} {lo : Int} {n : Nat} : ItD (Itr lo n) W G (rngD lo n) :=
  ⟨fun _ => True, YFn fun i => .int (lo + i), by rw [show (rngD lo n).length = n by simp [rngD]]; exact walk_range, fun H s => trivial, fun i H x H' hi s y => .inl ⟨y.1, .int (lo + i), by
    have : i < n := by simpa [rngD] using hi
    simp [rngD, this], by unfold Dv; exact y.2⟩⟩
def rngDC (lo c : Int) (n : Nat) : List Dat := (List.range n).map fun i : Nat => Dat.int (lo + i * c)
theorem itd_rangeC {W : Wd} {G : Hp} {lo c : Int} {n : Nat} : ItD (Itc lo c n) W G (rngDC lo c n) :=
  ⟨fun _ => True, YFn fun i => .int (lo + (i : Nat) * c), by rw [show (rngDC lo c n).length = n by simp [rngDC]]; exact walk_rangeC, fun H s => trivial, fun i H x H' hi s y => .inl ⟨y.1, .int (lo + i * c), by
    have : i < n := by simpa [rngDC] using hi
    simp [rngDC, this], by unfold Dv; exact y.2⟩⟩
def enumD (l : List Dat) : List Dat := l.mapIdx fun i d => Dat.tup [.int (i : Nat), d]
theorem itd_enum {K : Frag} {W : Wd} {G : Hp} {a : Addr} {xs : List V} {l : List Dat} (h : G a = some (.lst xs)) (o : Dvs G W l xs) : ItD (Ite K a) W G (enumD l) :=
  ⟨fun H => SqL K H a xs, YPair (fun i => some (.int (i : Nat))) (fun i => xs[i]?), by rw [show (enumD l).length = xs.length by simp [enumD, o.len]]; exact walk_enum (K := K), fun H s => SqL.of (s _ _ h), fun i H x H' hi s ⟨T, x1, y1, e1, e2, e3, e4, e5⟩ => by
    obtain ⟨d, ed, od⟩ := o.at e5
    cases e4
    refine .inr ⟨T, _, [.int (i : Nat), d], e1, e2, e3, by simp [enumD, ed], ?_⟩
    exact Dvs.cons dv_int (Dvs.cons od Dvs.nil)⟩
def zipD (l m : List Dat) : List Dat := List.zipWith (fun d e => Dat.tup [d, e]) l m
theorem itd_zip {K : Frag} {W : Wd} {G : Hp} {a b : Addr} {xs ys : List V} {l m : List Dat} (h : G a = some (.lst xs)) (o : Dvs G W l xs) (h' : G b = some (.lst ys)) (o' : Dvs G W m ys) : ItD (Itz K a b) W G (zipD l m) :=
  ⟨fun H => SqL K H a xs ∧ SqL K H b ys, YPair (fun i => xs[i]?) (fun i => ys[i]?), walk_zip (K := K) (xs := xs) (ys := ys) (by simp [zipD, o.len, o'.len]), fun H s => ⟨SqL.of (s _ _ h), SqL.of (s _ _ h')⟩, fun i H x H' hi s ⟨T, x1, y1, e1, e2, e3, e4, e5⟩ => by
    obtain ⟨d, ed, od⟩ := o.at e4
    obtain ⟨d2, ed2, od2⟩ := o'.at e5
    refine .inr ⟨T, _, [d, d2], e1, e2, e3, by simp [zipD, List.getElem?_zipWith, ed, ed2], ?_⟩
    exact Dvs.cons od (Dvs.cons od2 Dvs.nil)⟩
abbrev DI := DSt → Int → (List Dat → Int → Prop) → Prop
def RI (wi : TI) (fi : DI) : Prop := ∀ (W : Wd) (D : DSt) (σ : L2.St) (H G : Hp) (n : Int) (q : List Dat → Int → Prop) (R : It → Hp → Prop), SlD G W D σ → Hs W H G n → fi D n q → (∀ l n' J H' G', Go W H G H' G' → Hs W H' G' n' → ItD J W G' l → q l n' → R J H') → wi σ H R
/-- a list or a tuple, walked -/
def iLT (K : Frag) (tl : TE) : TI := fun σ H R => tl σ H fun x H1 => ∃ (a : Addr) (xs : List V), x = .ref a ∧ ((SqL K H1 a xs ∧ R (Itl K a) H1) ∨ (SqT K H1 a xs ∧ R (Itt K a) H1))
theorem pi_lt {X : Cx} {tg l : Expr} {tl : TE} (hl : PE X l tl) : PI X tg l (iLT X.K tl) := by
  refine ⟨fun pins s σ H R I h => thn (hl.run pins s σ H _ I h) fun v s1 ⟨x, H1, I1, r1, q1⟩ => ?_⟩
  obtain ⟨a, xs, rfl, q1⟩ := q1
  cases r1
  have fresh : ∀ b ∈ [s1.heap.objs.size], FpOk X pins H1 b := fun b hb => by
    rw [List.mem_singleton.mp hb]
    exact I1.fpOk (Nat.le_refl _) (I1.hok.fresh (Nat.le_refl _))
  rcases q1 with ⟨hq, q⟩ | ⟨hq, q⟩
  · obtain ⟨its, rv, p, hz⟩ := I1.list hq
    exact wpAny_pyIter_list p.isList ⟨_, _, _, _, H1, rfl, I1.kept (t' := s1.toks) fun b o e => Heap.get?_push_of_some _ e, turn_list a _, ⟨_, Heap.get?_push_size _ rfl, rfl, rfl⟩, fresh, q⟩
  · obtain ⟨its, rv, p, hz⟩ := I1.tuple hq
    exact wpAny_pyIter_tuple (show s1.heap.IsTuple a its.toArray from p) ⟨_, _, _, _, H1, rfl, I1.kept (t' := s1.toks) fun b o e => Heap.get?_push_of_some _ e, turn_tuple a _, ⟨_, Heap.get?_push_size _ rfl, rfl, rfl⟩, fresh, q⟩
def dItems (f : DE) : DI := fun D n Q => f D n fun x n1 => ∃ l, x.sh.items = some l ∧ Q l n1
theorem ri_lt {K : Frag} {t : TE} {f : DE} (a : RE t f) : RI (iLT K t) (dItems f) := fun W D σ H G n q R s h e k =>
  a.s (q := fun x n1 => ∃ l, x.items = some l ∧ q l n1) s h e fun d n1 v H1 G1 g1 h1 o ⟨l, el, e1⟩ => by
    obtain ⟨a, xs, rfl, c, o2⟩ := o.seq (K := K) h1.le el
    refine ⟨a, xs, rfl, ?_⟩
    rcases c with ⟨_, h2, sq⟩ | ⟨_, h2, sq⟩
    · exact .inl ⟨sq, k l n1 _ H1 G1 g1 h1 (itd_list h2 o2) e1⟩
    · exact .inr ⟨sq, k l n1 _ H1 G1 g1 h1 (itd_tup h2 o2) e1⟩
def dRng1 (f : DA) : DI := fun D n Q => f D n fun xs n1 => ∃ j, xs = [.int j] ∧ (-(2 ^ 62) ≤ j ∧ j < 2 ^ 62) ∧ Q (rngD 0 j.toNat) n1
def dRng2 (f : DA) : DI := fun D n Q => f D n fun xs n1 => ∃ i j, xs = [.int i, .int j] ∧ (-(2 ^ 62) ≤ i ∧ i < 2 ^ 62 ∧ -(2 ^ 62) ≤ j ∧ j < 2 ^ 62) ∧ Q (rngD i (j - i).toNat) n1
def dRng3 (f : DA) : DI := fun D n Q => f D n fun xs n1 => ∃ i j c m, xs = [.int i, .int j, .int c] ∧ RgC i j c m ∧ Q (rngDC i c m) n1
theorem shs1 {d : Dat} : shs [d] = [d.sh] := rfl
theorem ri_rng1 {t : TA} {f : DA} (a : RA t f) : RI (iRng1 t) (dRng1 f) := fun W D σ H G n q R s h e k => a W D σ H G n _ _ s h e fun ds n1 vs H1 G1 L1 g1 h1 o ⟨j, ed, b, e1⟩ => by
  subst ed
  have o := o.ow
  unfold Ows Ows Ow at o
  obtain ⟨x, r, M, N, rfl, _, ⟨rfl, _⟩, rfl, _⟩ := o
  exact ⟨j, rfl, b.1, b.2, k _ n1 _ H1 G1 g1 h1 itd_range e1⟩
theorem ri_rng2 {t : TA} {f : DA} (a : RA t f) : RI (iRng2 t) (dRng2 f) := fun W D σ H G n q R s h e k => a W D σ H G n _ _ s h e fun ds n1 vs H1 G1 L1 g1 h1 o ⟨i, j, ed, b, e1⟩ => by
  subst ed
  have o := o.ow
  unfold Ows Ows Ows Ow at o
  obtain ⟨x, r, M, N, rfl, _, ⟨rfl, _⟩, y, r2, M2, N2, rfl, _, ⟨rfl, _⟩, rfl, _⟩ := o
  exact ⟨i, j, rfl, b, k _ n1 _ H1 G1 g1 h1 itd_range e1⟩
theorem ri_rng3 {t : TA} {f : DA} (a : RA t f) : RI (iRng3 t) (dRng3 f) := fun W D σ H G n q R s h e k => a W D σ H G n _ _ s h e fun ds n1 vs H1 G1 L1 g1 h1 o ⟨i, j, c, m, ed, b, e1⟩ => by
  subst ed
  have o := o.ow
  unfold Ows Ows Ows Ows Ow at o
  obtain ⟨x, r, M, N, rfl, _, ⟨rfl, _⟩, y, r2, M2, N2, rfl, _, ⟨rfl, _⟩, z, r3, M3, N3, rfl, _, ⟨rfl, _⟩, rfl, _⟩ := o
  exact ⟨i, j, c, m, rfl, b, k _ n1 _ H1 G1 g1 h1 itd_rangeC e1⟩
def dEnum (f : DA) : DI := fun D n Q => f D n fun xs n1 => ∃ l, shs xs = [.lst l] ∧ Q (enumD l) n1
theorem ri_enum {K : Frag} {t : TA} {f : DA} (a : RA t f) : RI (iEnum K t) (dEnum f) := fun W D σ H G n q R s h e k =>
  a.s (q := fun xs n1 => ∃ l, xs = [.lst l] ∧ q (enumD l) n1) s h e fun ds n1 vs H1 G1 g1 h1 o ⟨l, ed, e1⟩ => by
    subst ed
    unfold Dvs Dvs Dv at o
    obtain ⟨x, r, rfl, ⟨a, xs, rfl, h2, o2⟩, rfl⟩ := o
    exact ⟨a, xs, rfl, SqL.of (h1.le _ _ h2), k _ n1 _ H1 G1 g1 h1 (itd_enum h2 o2) e1⟩
def dZip (f : DA) : DI := fun D n Q => f D n fun xs n1 => ∃ l m, shs xs = [.lst l, .lst m] ∧ Q (zipD l m) n1
theorem ri_zip {K : Frag} {t : TA} {f : DA} (a : RA t f) : RI (iZip K t) (dZip f) := fun W D σ H G n q R s h e k =>
  a.s (q := fun xs n1 => ∃ l m, xs = [.lst l, .lst m] ∧ q (zipD l m) n1) s h e fun ds n1 vs H1 G1 g1 h1 o ⟨l, m, ed, e1⟩ => by
    subst ed
    unfold Dvs Dvs Dvs Dv at o
    obtain ⟨x, r, rfl, ⟨a, xs, rfl, h2, o2⟩, x', r', rfl, ⟨b, ys, rfl, h3, o3⟩, rfl⟩ := o
    exact ⟨a, b, xs, ys, rfl, SqL.of (h1.le _ _ h2), SqL.of (h1.le _ _ h3), k _ n1 _ H1 G1 g1 h1 (itd_zip h2 o2 h3 o3) e1⟩
/-! targets -/
abbrev DG := Dat → DSt → (DSt → Prop) → Prop
/-- the slots but those in vs are as they were -/
def OnlyS (vs : List Nat) (σ σ' : L2.St) : Prop := σ'.length = σ.length ∧ ∀ j, j ∉ vs → σ'[j]? = σ[j]?
def RG (vs : List Nat) (g : TG) (fg : DG) : Prop := ∀ (W : Wd) (D : DSt) (σ : L2.St) (H G : Hp) (n : Int) (d : Dat) (v : V) (q : DSt → Prop) (Q : L2.St → Hp → Prop), SlD G W D σ → Hs W H G n → Dv G W d v → fg d D q → (∀ D' σ', SlD G W D' σ' → OnlyS vs σ σ' → q D' → Q σ' H) → g v σ H Q
def dgName (i : Nat) : DG := fun d D Q => Q (D.set i (some d))
theorem SlD.set {G : Hp} {W : Wd} {D : DSt} {σ : L2.St} (s : SlD G W D σ) (i : Nat) {d : Dat} {v : V} (o : Dv G W d v) : SlD G W (D.set i (some d)) (σ.set i (some v)) := by
  refine ⟨by rw [List.length_set, List.length_set]; exact s.len, fun j e ej => ?_⟩
  by_cases h : i = j
  · subst h
    by_cases hl : i < D.length
    · rw [List.getElem?_set_self hl] at ej
      cases ej
      exact ⟨v, by rw [List.getElem?_set_self (by rw [← s.len]; exact hl)], o⟩
    · rw [List.getElem?_eq_none (by rw [List.length_set]; omega)] at ej
      cases ej
  · rw [List.getElem?_set_ne h] at ej ⊢
    exact s.val j e ej
theorem rg_name {vs : List Nat} (i : Nat) (hi : i ∈ vs) : RG vs (gName i) (dgName i) := fun W D σ H G n d v q Q s h o e k => k _ _ (s.set i o) ⟨by rw [List.length_set], fun j hj => List.getElem?_set_ne (fun z => hj (by rw [← z]; exact hi))⟩ e
abbrev DGs := List Dat → DSt → (DSt → Prop) → Prop
def RGs (vs : List Nat) (g : TGs) (fg : DGs) : Prop := ∀ (W : Wd) (D : DSt) (σ : L2.St) (H G : Hp) (n : Int) (d : List Dat) (v : List V) (q : DSt → Prop) (Q : L2.St → Hp → Prop), SlD G W D σ → Hs W H G n → Dvs G W d v → fg d D q → (∀ D' σ', SlD G W D' σ' → OnlyS vs σ σ' → q D' → Q σ' H) → g v σ H Q
def dgNil : DGs
  | [], D, Q => Q D
  | _, _, _ => False
def dgCons (f : DG) (g : DGs) : DGs
  | d :: l, D, Q => f d D fun D1 => g l D1 Q
  | _, _, _ => False
theorem rgs_nil {vs : List Nat} : RGs vs gNil dgNil := fun W D σ H G n d v q Q s h o e k => by
  cases d with
  | nil =>
    unfold Dvs at o
    exact ⟨o, k D σ s ⟨rfl, fun _ _ => rfl⟩ e⟩
  | cons _ _ => exact e.elim
theorem rgs_cons {vs : List Nat} {g : TG} {f : DG} {t : TGs} {u : DGs} (a : RG vs g f) (b : RGs vs t u) : RGs vs (gCons g t) (dgCons f u) := fun W D σ H G n d v q Q s h o e k => by
  cases d with
  | nil => exact e.elim
  | cons d l =>
    unfold Dvs at o
    obtain ⟨x, r, rfl, o1, o2⟩ := o
    exact ⟨x, r, rfl, a W D σ H G n d x _ _ s h o1 e fun D1 σ1 s1 u1 e1 => b W D1 σ1 H G n l r q Q s1 h o2 e1 fun D2 σ2 s2 u2 e2 => k D2 σ2 s2 ⟨u2.1.trans u1.1, fun j hj => (u2.2 j hj).trans (u1.2 j hj)⟩ e2⟩
def dgTup (n : Nat) (f : DGs) : DG
  | .tup l, D, Q => l.length = n ∧ f l D Q
  | _, _, _ => False
theorem rg_tup {K : Frag} {vs : List Nat} {g : TGs} {f : DGs} {m : Nat} (a : RGs vs g f) : RG vs (gTup K m g) (dgTup m f) := fun W D σ H G n d v q Q s h o e k => by
  unfold dgTup at e
  split at e
  · unfold Dv at o
    obtain ⟨p, xs, rfl, h1, o1⟩ := o
    exact ⟨p, xs, rfl, SqT.of (h.le _ _ h1), by rw [o1.len]; exact e.1, a W D σ H G n _ _ q Q s h o1 e.2 k⟩
  · exact e.elim
/-! comprehensions -/
def dYes : DT := fun _ n Q => Q true n
theorem rt_yes : RT tYes dYes := fun W D σ H G n q Q s h e k => k true n H G Go.refl h e
def dLcGo (fg : DG) (ft : DT) (fe : DE) (D : DSt) : List Dat → Int → List Dat → (List Dat → Int → Prop) → Prop
  | [], n, acc, Q => Q acc n
  | d :: l, n, acc, Q => fg d D fun D' => ft D' n fun b n1 => if b = true then fe D' n1 fun x n2 => dLcGo fg ft fe D l n2 (acc ++ [x]) Q else dLcGo fg ft fe D l n1 acc Q
def wipeD (D : DSt) : List Nat → DSt
  | [] => D
  | v :: vs => (wipeD D vs).set v none
def dLc (fi : DI) (fg : DG) (ft : DT) (fe : DE) (vs : List Nat) : DE := fun D n Q => fi D n fun l n1 => l.length ≤ sizeLine ∧ dLcGo fg ft fe (wipeD D vs) l n1 [] fun acc n2 => Q (.own acc) n2
theorem SlD.none {G : Hp} {W : Wd} {D : DSt} {σ : L2.St} (s : SlD G W D σ) (i : Nat) : SlD G W (D.set i none) (σ.set i none) := by
  refine ⟨by rw [List.length_set, List.length_set]; exact s.len, fun j e ej => ?_⟩
  by_cases h : i = j
  · subst h
    by_cases hl : i < D.length
    · rw [List.getElem?_set_self hl] at ej
      cases ej
    · rw [List.getElem?_eq_none (by rw [List.length_set]; omega)] at ej
      cases ej
  · rw [List.getElem?_set_ne h] at ej ⊢
    exact s.val j e ej
theorem SlD.wipe {G : Hp} {W : Wd} {D : DSt} {σ : L2.St} (s : SlD G W D σ) : ∀ vs : List Nat, SlD G W (wipeD D vs) (L2.wipe σ vs)
  | [] => s
  | v :: vs => (s.wipe vs).none v
theorem wipe_get {σ : L2.St} : ∀ {vs : List Nat} {j : Nat}, (L2.wipe σ vs)[j]? = if j ∈ vs then (if j < σ.length then some none else none) else σ[j]?
  | [], j => by simp [L2.wipe]
  | v :: vs, j => by
    rw [L2.wipe]
    by_cases h : v = j
    · subst h
      by_cases hl : v < σ.length
      · rw [List.getElem?_set_self (by rw [L2.wipe_length]; exact hl)]
        simp [hl]
      · rw [List.getElem?_eq_none (by rw [List.length_set, L2.wipe_length]; omega)]
        simp [hl]
    · rw [List.getElem?_set_ne h, wipe_get]
      have : ¬ j = v := fun z => h z.symm
      simp [this]
theorem wipe_only {vs : List Nat} {σ σ' : L2.St} (o : OnlyS vs (L2.wipe σ vs) σ') : L2.wipe σ' vs = L2.wipe σ vs := by
  have hl : σ'.length = σ.length := by rw [o.1, L2.wipe_length]
  refine List.ext_getElem? fun j => ?_
  rw [wipe_get, wipe_get, hl]
  by_cases h : j ∈ vs
  · rw [if_pos h, if_pos h]
  · rw [if_neg h, if_neg h, o.2 j h, wipe_get, if_neg h]
theorem re_lc {wi : TI} {g : TG} {tt : TT} {te : TE} {vs : List Nat} {fi : DI} {fg : DG} {ft : DT} {fe : DE} (ai : RI wi fi) (ag : RG vs g fg) (at' : RT tt ft) (ae : RE te fe) : RE (tLc wi g tt te vs) (dLc fi fg ft fe vs) := fun W D σ H G n q Q s h e k =>
  ai W D σ H G n _ _ s h e fun l n1 J H1 G1 g1 h1 ⟨Gp, Y, wk, hG, hY⟩ ⟨hl, e1⟩ R hR => by
    have sw := (s.mono g1.grow).wipe vs
    have k1 := k.go g1
    refine lc_it wk (fun i H' => ∃ (m : Int) (acc : List Dat) (vs' : List V) (L : List Addr) (G' : Hp), H' R = some (.lst vs') ∧ G' R = none ∧ Go W H1 G1 H' G' ∧ Hs W H' G' m ∧ OwNs W H1 H' G' acc vs' L ∧ R ∉ L ∧ acc.length ≤ i ∧ dLcGo fg ft fe (wipeD D vs) (l.drop i) m acc fun acc n2 => q (.own acc) n2) ?_ ?_ ?_ ?_
    · exact ⟨n1, [], [], [], G1, upd_same, h1.gnone hR, Go.owned _ hR, h1.owned _ hR, ⟨Ows.nil, List.nodup_nil, fun b hb => by cases hb⟩, List.not_mem_nil, Nat.le_refl _, by rw [List.drop_zero]; exact e1⟩
    · rintro i H' hi ⟨m, acc, vs', L, G', _, _, gg, hs, _⟩
      exact hG H' (gg.grow.trans hs.le)
    · rintro i x H2 H3 hi ⟨m, acc, vs', L, G2, hr, gr, gg, hs, oa, rL, la, ec⟩ y
      have hi2 : i < l.length := hi
      -- the item
      obtain ⟨d, G3, ed, g3, h3, o3⟩ : ∃ d G3, l[i]? = some d ∧ Go W H2 G2 H3 G3 ∧ Hs W H3 G3 m ∧ Dv G3 W d x := by
        rcases hY i H2 x H3 hi (gg.grow.trans hs.le) y with ⟨rfl, d, ed, od⟩ | ⟨T, ws, ds, rfl, hT, rfl, ed, od⟩
        · exact ⟨d, G2, ed, Go.refl, hs, Dv.mono gg.grow _ od⟩
        · refine ⟨_, _, ed, Go.shared (.tup ws) hs.le hT, hs.shared _ hT, ?_⟩
          unfold Dv
          exact ⟨T, ws, rfl, upd_same, Dvs.mono (gg.grow.trans (Go.shared (W := W) (.tup ws) hs.le hT).grow) _ od⟩
      have el : l.drop i = d :: l.drop (i + 1) := by
        rw [List.drop_eq_getElem_cons hi2]
        congr 1
        rw [List.getElem?_eq_getElem hi2] at ed
        exact Option.some.inj ed
      rw [el] at ec
      have gg3 := gg.trans g3
      refine ag W (wipeD D vs) (L2.wipe σ vs) H3 G3 m d x _ _ (sw.mono gg3.grow) h3 o3 ec fun D4 σ4 s4 u4 e4 => ⟨wipe_only u4, ?_⟩
      refine at' W D4 σ4 H3 G3 m _ _ s4 h3 e4 fun b m5 H5 G5 g5 h5 e5 => ?_
      have gg5 := gg3.trans g5
      have R5 : ∀ {Ha Ga Hb Gb}, Go W Ha Ga Hb Gb → Ha R = some (.lst vs') → Ga R = none → Hb R = some (.lst vs') ∧ Gb R = none := fun g a b => ⟨g.but _ _ a (fun _ ps z => by cases z) (h1.ne hR), go_gnone g a b⟩
      obtain ⟨r3, q3⟩ := R5 g3 hr gr
      obtain ⟨r5, q5⟩ := R5 g5 r3 q3
      have oa5 := (oa.go h1 g3).go h1 g5
      cases b with
      | false => exact ⟨m5, acc, vs', L, G5, r5, q5, gg5, h5, oa5, rL, by omega, e5⟩
      | true =>
        refine ae W D4 σ4 H5 G5 m5 _ _ (s4.mono g5.grow) h5 e5 fun y m6 vy H6 G6 L6 g6 h6 o6 e6 => ?_
        obtain ⟨r6, q6⟩ := R5 g6 r5 q5
        have oa6 := oa5.go h1 g6
        have gg6 := gg5.trans g6
        have o6' := OwN.older gg5 o6
        have R6 : R ∉ L6 := fun z => by
          have := (o6.fr R z).1
          rw [r5] at this
          cases this
        refine ⟨vs', r6, ?_, m6, acc ++ [y], vs' ++ [vy], L ++ L6, G6, upd_same, q6, ⟨fun b o e nt nst => ?_, fun b e => ?_, gg6.grow, gg6.new⟩, ⟨fun b o e => ?_, fun u => ?_, fun us => tabs_keep (h6.tab us) fun b o e nl => by rw [upd_ne (fun z => nl _ (Option.some.inj ((z ▸ e).symm.trans r6)))]; exact e, h6.out, h6.nt⟩, ⟨?_, ?_, ?_⟩, ?_, ?_, e6⟩
        · rw [oa6.ow.len]
          exact Nat.lt_of_le_of_lt la (Nat.lt_of_lt_of_le hi2 hl)
        · rw [upd_ne (ne_of_none e hR)]
          exact gg6.but b o e nt nst
        · by_cases z : b = R
          · rw [z, upd_same] at e
            cases e
          · rw [upd_ne z] at e
            exact gg6.dom b e
        · rw [upd_ne (ne_of_none e q6)]
          exact h6.le _ _ e
        · obtain ⟨st, ne, n0⟩ := h6.str u
          have nn := mv_st (h1.ne hR) u
          exact ⟨st.keep (upd_ne nn.1) (upd_ne nn.2), ne, n0⟩
        · refine Ows.keep Same.refl _ (fun b hb xs e => ?_) (oa6.ow.app (Ows.one o6'.ow))
          rw [upd_ne]
          · exact e
          · rintro rfl
            rcases List.mem_append.mp hb with z | z
            · exact rL z
            · exact R6 z
        · refine List.nodup_append.mpr ⟨oa6.nd, o6'.nd, fun a ha b hb z => ?_⟩
          obtain ⟨ys, ey⟩ := Ows.lists _ oa5.ow a ha
          have := (o6.fr b hb).1
          rw [← z, ey] at this
          cases this
        · intro b hb
          rcases List.mem_append.mp hb with z | z
          · exact oa6.fr b z
          · exact o6'.fr b z
        · exact fun z => (List.mem_append.mp z).elim rL R6
        · rw [List.length_append, List.length_singleton]
          omega
    · rintro H' ⟨m, acc, vs', L, G', hr, gr, gg, hs, oa, rL, la, ec⟩
      rw [List.drop_length] at ec
      refine k1 (.own acc) m (.ref R) H' G' (R :: L) gg hs ⟨?_, List.nodup_cons.mpr ⟨rL, oa.nd⟩, fun b hb => ?_⟩ ec
      · unfold Ow
        exact ⟨R, vs', L, rfl, hr, rfl, oa.ow⟩
      · rcases List.mem_cons.mp hb with z | z
        · rw [z]
          exact ⟨hR, gr⟩
        · exact oa.fr b z
/-! stars -/
def dStar (f : DE) (g : DA) : DA := fun D n Q => f D n fun x n1 => ∃ l, x.sh.items = some l ∧ g D n1 fun ys n2 => Q (l ++ ys) n2
theorem ra_star {K : Frag} {t : TE} {f : DE} {u : TA} {g : DA} (a : RE t f) (b : RA u g) : RA (StX.tStar K t u) (dStar f g) := fun W D σ H G n q Q s h e k =>
  a.s (q := fun x n1 => ∃ l, x.items = some l ∧ g D n1 fun ys n2 => q (l ++ ys) n2) s h e fun d n1 v H1 G1 g1 h1 o ⟨l, el, e1⟩ => by
    obtain ⟨p, xs, rfl, c, o2⟩ := o.seq (K := K) h1.le el
    refine ⟨p, xs, rfl, ?_, b W D σ H1 G1 n1 _ _ (s.mono g1.grow) h1 e1 fun ys n2 vs H2 G2 L2 g2 h2 o3 e2 => ?_⟩
    · rcases c with ⟨_, _, sq⟩ | ⟨_, _, sq⟩
      · exact .inr sq
      · exact .inl sq
    · exact k _ n2 _ H2 G2 L2 (g1.trans g2) h2 ⟨by have := (Ows.of_dvs (H := H2) _ (Dvs.mono g2.grow _ o2)).app o3.ow; exact this, o3.nd, fun b hb => ⟨g1.dom b (o3.fr b hb).1, (o3.fr b hb).2⟩⟩ e2
end DL
set_option Elab.async false
set_option linter.all false
set_option maxRecDepth 100000
set_option maxHeartbeats 4000000
/-! calls by data alone -/
namespace DL
open PySem PySem.Spec PySem.W PyProof.Rows L2
variable [TabsOf]
/-! built-ins -/
def CbD (r : List V → Hp → VK → Prop) (rd : List Dat → (Dat → Prop) → Prop) : Prop := ∀ (W : Wd) (H G : Hp) (n : Int) (vs : List V) (ds : List Dat) (q : Dat → Prop) (Q : VK), Hs W H G n → Dvs G W ds vs → rd ds q → KE W H G (fun d n' => n' = n ∧ q d) Q → r vs H Q
def dCB (rd : List Dat → (Dat → Prop) → Prop) (f : DA) : DE := fun D n Q => f D n fun ds n1 => rd (shs ds) fun d => Q d n1
theorem re_cb {r : List V → Hp → VK → Prop} {rd : List Dat → (Dat → Prop) → Prop} {t : TA} {f : DA} (o : CbD r rd) (a : RA t f) : RE (tCB r t) (dCB rd f) := fun W D σ H G n q Q s h e k =>
  a.s (q := fun x n1 => rd x fun d => q d n1) s h e fun x n1 vx H1 G1 g1 h1 ox e1 => o W H1 G1 n1 vx x _ Q h1 ox e1 fun d n' v H' G' L g h' ow ⟨en, eq⟩ => by
      subst en
      exact k d n' v H' G' L (g1.trans g) h' (ow.older g1) eq
theorem dvs_one {G : Hp} {W : Wd} {d : Dat} {vs : List V} (h : Dvs G W [d] vs) : ∃ v, vs = [v] ∧ Dv G W d v := by
  unfold Dvs Dvs at h
  obtain ⟨x, r, rfl, h1, rfl⟩ := h
  exact ⟨x, rfl, h1⟩
theorem dvs_two {G : Hp} {W : Wd} {d e : Dat} {vs : List V} (h : Dvs G W [d, e] vs) : ∃ v w, vs = [v, w] ∧ Dv G W d v ∧ Dv G W e w := by
  unfold Dvs Dvs Dvs at h
  obtain ⟨x, r, rfl, h1, y, r2, rfl, h2, rfl⟩ := h
  exact ⟨x, y, rfl, h1, h2⟩
def rLen (K : Frag) : List V → Hp → VK → Prop := fun xs H Q => (∃ p ys, xs = [.ref p] ∧ (SqL K H p ys ∨ SqT K H p ys) ∧ Q (.int ys.length) H) ∨ (∃ z, xs = [.str z] ∧ z.length ≤ sizeLine ∧ Q (.int z.length) H)
theorem cr_len {X : Cx} : CallR X (.builtin "len") (rLen X.K) := call_len_seq.or call_len_str
def dLen : List Dat → (Dat → Prop) → Prop
  | [.lst l], Q => Q (.int l.length)
  | [.tup l], Q => Q (.int l.length)
  | [.str z], Q => z.length ≤ sizeLine ∧ Q (.int z.length)
  | _, _ => False
theorem cbd_len {K : Frag} : CbD (rLen K) dLen := fun W H G n vs ds q Q h o e k => by
  unfold dLen at e
  split at e
  · obtain ⟨v, rfl, o1⟩ := dvs_one o
    unfold Dv at o1
    obtain ⟨p, xs, rfl, h1, o2⟩ := o1
    refine .inl ⟨p, xs, rfl, .inl (SqL.of (h.le _ _ h1)), ?_⟩
    rw [o2.len]
    exact ke_n k h dv_int e
  · obtain ⟨v, rfl, o1⟩ := dvs_one o
    unfold Dv at o1
    obtain ⟨p, xs, rfl, h1, o2⟩ := o1
    refine .inl ⟨p, xs, rfl, .inr (SqT.of (h.le _ _ h1)), ?_⟩
    rw [o2.len]
    exact ke_n k h dv_int e
  · obtain ⟨v, rfl, o1⟩ := dvs_one o
    unfold Dv at o1
    subst o1
    exact .inr ⟨_, rfl, e.1, ke_n k h dv_int e.2⟩
  · exact e.elim
def rList (K : Frag) : List V → Hp → VK → Prop := fun xs H Q => ∃ p ys, xs = [.ref p] ∧ (SqL K H p ys ∨ SqT K H p ys) ∧ ∀ l, H l = none → Q (.ref l) (upd H l (.lst ys))
def dList : List Dat → (Dat → Prop) → Prop
  | [.lst l], Q => Q (.own l)
  | [.tup l], Q => Q (.own l)
  | _, _ => False
theorem cbd_list {K : Frag} : CbD (rList K) dList := fun W H G n vs ds q Q h o e k => by
  unfold dList at e
  split at e
  · obtain ⟨v, rfl, o1⟩ := dvs_one o
    unfold Dv at o1
    obtain ⟨p, xs, rfl, h1, o2⟩ := o1
    exact ⟨p, xs, rfl, .inl (SqL.of (h.le _ _ h1)), fun t ht => k.newS h o2 ⟨rfl, e⟩ ht⟩
  · obtain ⟨v, rfl, o1⟩ := dvs_one o
    unfold Dv at o1
    obtain ⟨p, xs, rfl, h1, o2⟩ := o1
    exact ⟨p, xs, rfl, .inr (SqT.of (h.le _ _ h1)), fun t ht => k.newS h o2 ⟨rfl, e⟩ ht⟩
  · exact e.elim
def rTuple (K : Frag) : List V → Hp → VK → Prop := fun xs H Q => ∃ p ys, xs = [.ref p] ∧ ((SqL K H p ys ∧ ∀ l, H l = none → Q (.ref l) (upd H l (.tup ys))) ∨ (SqT K H p ys ∧ Q (.ref p) H))
def dTuple : List Dat → (Dat → Prop) → Prop
  | [.lst l], Q => Q (.tup l)
  | [.tup l], Q => Q (.tup l)
  | _, _ => False
theorem cbd_tuple {K : Frag} : CbD (rTuple K) dTuple := fun W H G n vs ds q Q h o e k => by
  unfold dTuple at e
  split at e
  · obtain ⟨v, rfl, o1⟩ := dvs_one o
    unfold Dv at o1
    obtain ⟨p, xs, rfl, h1, o2⟩ := o1
    exact ⟨p, xs, rfl, .inl ⟨SqL.of (h.le _ _ h1), fun t ht => k.newTS h o2 ⟨rfl, e⟩ ht⟩⟩
  · obtain ⟨v, rfl, o1⟩ := dvs_one o
    have o1' := o1
    unfold Dv at o1
    obtain ⟨p, xs, rfl, h1, o2⟩ := o1
    exact ⟨p, xs, rfl, .inr ⟨SqT.of (h.le _ _ h1), ke_n k h o1' e⟩⟩
  · exact e.elim
def dAbs : List Dat → (Dat → Prop) → Prop
  | [.int i], Q => Q (.int (if i < 0 then -i else i))
  | _, _ => False
theorem cbd_abs : CbD (fun xs H Q => ∃ i, xs = [.int i] ∧ Q (.int (if i < 0 then -i else i)) H) dAbs := fun W H G n vs ds q Q h o e k => by
  unfold dAbs at e
  split at e
  · obtain ⟨v, rfl, o1⟩ := dvs_one o
    unfold Dv at o1
    exact ⟨_, by rw [o1], ke_n k h dv_int e⟩
  · exact e.elim
def dInt : List Dat → (Dat → Prop) → Prop
  | [.int i], Q => Q (.int i)
  | [.bl b], Q => Q (.int (if b then 1 else 0))
  | _, _ => False
theorem cbd_int : CbD (fun xs H Q => (∃ i, xs = [.int i] ∧ Q (.int i) H) ∨ ∃ k, xs = [.bl k] ∧ Q (.int (if k then 1 else 0)) H) dInt := fun W H G n vs ds q Q h o e k => by
  unfold dInt at e
  split at e
  · obtain ⟨v, rfl, o1⟩ := dvs_one o
    unfold Dv at o1
    exact .inl ⟨_, by rw [o1], ke_n k h dv_int e⟩
  · obtain ⟨v, rfl, o1⟩ := dvs_one o
    unfold Dv at o1
    exact .inr ⟨_, by rw [o1], ke_n k h dv_int e⟩
  · exact e.elim
def dStrI : List Dat → (Dat → Prop) → Prop
  | [.int i], Q => i.natAbs.log2 < 1920 ∧ Q (.str (toString i))
  | _, _ => False
theorem cbd_str : CbD (fun xs H Q => ∃ i, xs = [.int i] ∧ i.natAbs.log2 < 1920 ∧ Q (.str (toString i)) H) dStrI := fun W H G n vs ds q Q h o e k => by
  unfold dStrI at e
  split at e
  · obtain ⟨v, rfl, o1⟩ := dvs_one o
    unfold Dv at o1
    exact ⟨_, by rw [o1], e.1, ke_n k h (by unfold Dv; rfl) e.2⟩
  · exact e.elim
theorem dvs_ints {G : Hp} {W : Wd} : ∀ (ns : List Int) {xs : List V}, Dvs G W (ns.map Dat.int) xs → xs = ns.map V.int
  | [], xs, h => by
    unfold List.map Dvs at h
    rw [h]
    rfl
  | n :: r, xs, h => by
    rw [List.map_cons] at h
    unfold Dvs at h
    obtain ⟨x, t, rfl, h1, h2⟩ := h
    unfold Dv at h1
    rw [h1, dvs_ints r h2]
    rfl
theorem dvs_bls {G : Hp} {W : Wd} : ∀ (ns : List Bool) {xs : List V}, Dvs G W (ns.map Dat.bl) xs → xs = ns.map V.bl
  | [], xs, h => by
    unfold List.map Dvs at h
    rw [h]
    rfl
  | n :: r, xs, h => by
    rw [List.map_cons] at h
    unfold Dvs at h
    obtain ⟨x, t, rfl, h1, h2⟩ := h
    unfold Dv at h1
    rw [h1, dvs_bls r h2]
    rfl
def dSum : List Dat → (Dat → Prop) → Prop
  | [.lst l], Q => ∃ ns : List Int, l = ns.map Dat.int ∧ Q (.int ns.sum)
  | _, _ => False
theorem cbd_sum {K : Frag} : CbD (rSum K) dSum := fun W H G n vs ds q Q h o e k => by
  unfold dSum at e
  split at e
  · obtain ⟨ns, rfl, e⟩ := e
    obtain ⟨v, rfl, o1⟩ := dvs_one o
    unfold Dv at o1
    obtain ⟨p, xs, rfl, h1, o2⟩ := o1
    rw [dvs_ints ns o2] at h1
    exact ⟨p, ns, rfl, SqL.of (h.le _ _ h1), ke_n k h dv_int e⟩
  · exact e.elim
def dMax : List Dat → (Dat → Prop) → Prop
  | [.int i, .int j], Q => Q (.int (if j > i then j else i))
  | [.lst l], Q => ∃ ns : List Int, l = ns.map Dat.int ∧ 0 < ns.length ∧ ∀ m, m ∈ ns → (∀ y, y ∈ ns → y ≤ m) → Q (.int m)
  | _, _ => False
def dMin : List Dat → (Dat → Prop) → Prop
  | [.int i, .int j], Q => Q (.int (if j < i then j else i))
  | [.lst l], Q => ∃ ns : List Int, l = ns.map Dat.int ∧ 0 < ns.length ∧ ∀ m, m ∈ ns → (∀ y, y ∈ ns → m ≤ y) → Q (.int m)
  | _, _ => False
def rMaxA (K : Frag) : List V → Hp → VK → Prop := fun xs H Q => (∃ i j, xs = [.int i, .int j] ∧ Q (.int (if j > i then j else i)) H) ∨ rMax K xs H Q
def rMinA (K : Frag) : List V → Hp → VK → Prop := fun xs H Q => (∃ i j, xs = [.int i, .int j] ∧ Q (.int (if j < i then j else i)) H) ∨ rMin K xs H Q
theorem cr_maxA {X : Cx} (hc : X.calm = true) : CallR X (.builtin "max") (rMaxA X.K) := (call_max2 hc).or (cr_max hc)
theorem cr_minA {X : Cx} (hc : X.calm = true) : CallR X (.builtin "min") (rMinA X.K) := (call_min2 hc).or (cr_min hc)
theorem cbd_max {K : Frag} : CbD (rMaxA K) dMax := fun W H G n vs ds q Q h o e k => by
  unfold dMax at e
  split at e
  · obtain ⟨v, w, rfl, o1, o2⟩ := dvs_two o
    unfold Dv at o1 o2
    exact .inl ⟨_, _, by rw [o1, o2], ke_n k h dv_int e⟩
  · obtain ⟨ns, rfl, e0, e⟩ := e
    obtain ⟨v, rfl, o1⟩ := dvs_one o
    unfold Dv at o1
    obtain ⟨p, xs, rfl, h1, o2⟩ := o1
    rw [dvs_ints ns o2] at h1
    exact .inr ⟨p, ns, rfl, SqL.of (h.le _ _ h1), e0, fun m hm hy => ke_n k h dv_int (e m hm hy)⟩
  · exact e.elim
theorem cbd_min {K : Frag} : CbD (rMinA K) dMin := fun W H G n vs ds q Q h o e k => by
  unfold dMin at e
  split at e
  · obtain ⟨v, w, rfl, o1, o2⟩ := dvs_two o
    unfold Dv at o1 o2
    exact .inl ⟨_, _, by rw [o1, o2], ke_n k h dv_int e⟩
  · obtain ⟨ns, rfl, e0, e⟩ := e
    obtain ⟨v, rfl, o1⟩ := dvs_one o
    unfold Dv at o1
    obtain ⟨p, xs, rfl, h1, o2⟩ := o1
    rw [dvs_ints ns o2] at h1
    exact .inr ⟨p, ns, rfl, SqL.of (h.le _ _ h1), e0, fun m hm hy => ke_n k h dv_int (e m hm hy)⟩
  · exact e.elim
def dAll : List Dat → (Dat → Prop) → Prop
  | [.lst l], Q => ∃ bs : List Bool, l = bs.map Dat.bl ∧ Q (.bl (bs.all id))
  | _, _ => False
def dAny : List Dat → (Dat → Prop) → Prop
  | [.lst l], Q => ∃ bs : List Bool, l = bs.map Dat.bl ∧ Q (.bl (bs.any id))
  | _, _ => False
theorem cbd_all {K : Frag} : CbD (rAll K) dAll := fun W H G n vs ds q Q h o e k => by
  unfold dAll at e
  split at e
  · obtain ⟨ns, rfl, e⟩ := e
    obtain ⟨v, rfl, o1⟩ := dvs_one o
    unfold Dv at o1
    obtain ⟨p, xs, rfl, h1, o2⟩ := o1
    rw [dvs_bls ns o2] at h1
    exact ⟨p, ns, rfl, SqL.of (h.le _ _ h1), ke_n k h (by unfold Dv; rfl) e⟩
  · exact e.elim
theorem cbd_any {K : Frag} : CbD (rAny K) dAny := fun W H G n vs ds q Q h o e k => by
  unfold dAny at e
  split at e
  · obtain ⟨ns, rfl, e⟩ := e
    obtain ⟨v, rfl, o1⟩ := dvs_one o
    unfold Dv at o1
    obtain ⟨p, xs, rfl, h1, o2⟩ := o1
    rw [dvs_bls ns o2] at h1
    exact ⟨p, ns, rfl, SqL.of (h.le _ _ h1), ke_n k h (by unfold Dv; rfl) e⟩
  · exact e.elim
/-! isinstance -/
def tyD : Dat → Option String
  | .non => some "NoneType"
  | .bl _ => some "bool"
  | .int _ => some "int"
  | .str _ => some "str"
  | .lst _ => some "list"
  | .own _ => some "list"
  | .tup _ => some "tuple"
  | .strm => some "list"
  | .fn _ => none
theorem Dv.ty {K : Frag} {W : Wd} {H G : Hp} {n : Int} (h : Hs W H G n) {d : Dat} {v : V} {T : String} (o : Dv G W d v) (e : tyD d = some T) : TyX K H v (.type T) := by
  cases d <;> cases e <;> unfold Dv at o
  · subst o; exact .base .non
  · subst o; exact .base (.bl _)
  · subst o; exact .base (.int _)
  · subst o; exact .base (.str _)
  · obtain ⟨a, xs, rfl, h1, _⟩ := o; exact .base (.lst (h.le _ _ h1))
  · obtain ⟨a, xs, rfl, h1, _⟩ := o; exact .base (.tup (h.le _ _ h1))
  · exact o.elim
  · obtain ⟨rfl, u⟩ := o
    obtain ⟨⟨ns, a, c, e1, _⟩, _⟩ := h.str u
    exact .base (.lst e1)
/-- isinstance(x, T), by the name of x's type -/
def isT (t T : String) : Bool := t == T || (t == "bool" && T == "int")
theorem kf {K : Frag} {a b : String} (h : kitB a b = some false := by decide +kernel) : kitOne K (.type a) (.type b) = some false := kit_ty h
theorem kt {K : Frag} {a b : String} (h : kitB a b = some true := by decide +kernel) : kitOne K (.type a) (.type b) = some true := kit_ty h
theorem kit_isT {K : Frag} {d : Dat} {t T : String} (e : tyD d = some t) (hT : T ∈ ["bool", "int", "str", "list", "tuple", "dict"]) : kitOne K (.type t) (.type T) = some (isT t T) := by
  simp only [List.mem_cons, List.not_mem_nil, or_false] at hT
  rcases hT with rfl | rfl | rfl | rfl | rfl | rfl <;> cases d <;> cases e <;> first | exact kt | exact kf
def dIsi (T : String) (f : DE) : DE := fun D n Q => f D n fun x n1 => ∃ t, tyD x = some t ∧ Q (.bl (isT t T)) n1
theorem tyD_sh (d : Dat) : tyD d.sh = tyD d := by cases d <;> rfl
theorem re_isi {K : Frag} {T : String} {t : TE} {f : DE} (hT : T ∈ ["bool", "int", "str", "list", "tuple", "dict"]) (a : RE t f) : RE (tCB (rIsi K) (tCons t (tCons (tC (.ty T)) tNil))) (dIsi T f) := fun W D σ H G n q Q s h e k =>
  a.s (q := fun x n1 => ∃ t, tyD x = some t ∧ q (.bl (isT t T)) n1) s h (by simp only [tyD_sh]; exact e) fun d n1 v H1 G1 g1 h1 o ⟨ty, et, e1⟩ =>
    ⟨v, .ty T, .type ty, .type T, isT ty T, rfl, .ty T, o.ty h1 et, kit_isT et hT, (k.go g1).here h1 (by unfold Dv; rfl) e1⟩
def dIsLT (f : DE) : DE := fun D n Q => f D n fun x n1 => ∃ t, tyD x = some t ∧ Q (.bl (isT t "list" || isT t "tuple")) n1
theorem re_isLT {K : Frag} {t : TE} {f : DE} (a : RE t f) : RE (tCB (rIsiT K) (tCons t (tCons (tTup (tCons (tC (.ty "list")) (tCons (tC (.ty "tuple")) tNil))) tNil))) (dIsLT f) := fun W D σ H G n q Q s h e k =>
  a.s (q := fun x n1 => ∃ t, tyD x = some t ∧ q (.bl (isT t "list" || isT t "tuple")) n1) s h (by simp only [tyD_sh]; exact e) fun d n1 v H1 G1 g1 h1 o ⟨ty, et, e1⟩ =>
    ⟨by show 2 ≤ sizeLine; decide, fun p hp => by
      have g2 := Go.owned (W := W) (G := G1) (.tup [.ty "list", .ty "tuple"]) hp
      have h2 := h1.owned (.tup [.ty "list", .ty "tuple"]) hp
      refine ⟨v, p, _, .type ty, _, isT ty "list" || isT ty "tuple", rfl, upd_same, .cons (.ty _) (.cons (.ty _) .nil), o.ty h2 et, kitAny_cons (kit_isT et (by decide)) (fun z => kitAny_cons (kit_isT et (by decide)) (fun z2 => ?_) (fun z2 => ?_)) (fun z => ?_), (k.go (g1.trans g2)).here h2 (by unfold Dv; rfl) e1⟩
      · rw [z, z2]; rfl
      · rw [z2]; simp
      · rw [z]; rfl⟩
/-! defs of the text -/
abbrev DF := List Dat → Int → (Dat → Int → Prop) → Prop
/-- called with things that stand for ds, it does g -/
def spD (m : Nat) (g : DF) : Sp := fun vs H Q _ => ∃ (W : Wd) (G : Hp) (n : Int) (ds : List Dat) (q : Dat → Int → Prop), Hs W H G n ∧ Dvs G W ds vs ∧ ds.length = m ∧ g ds n q ∧ KE W H G q Q
def dCall (m : Nat) (g : DF) (f : DA) : DE := fun D n Q => f D n fun ds n1 => ds.length = m ∧ g (shs ds) n1 Q
theorem re_call {m : Nat} {g : DF} {t : TA} {f : DA} (a : RA t f) : RE (tCall (spD m g) [] E0 t) (dCall m g f) := fun W D σ H G n q Q s h e k =>
  a.s (q := fun ds n1 => ds.length = m ∧ g ds n1 q) s h (by simpa only [dCall, shs_len] using e) fun ds n1 vs H1 G1 g1 h1 o ⟨el, e1⟩ => ⟨W, G1, n1, ds, q, h1, by rw [List.append_nil]; exact o, el, e1, k.go g1⟩
theorem re_call0 {m : Nat} {g : DF} : RE (tCall (spD m g) [] E0 tNil) (dCall m g dNil) := re_call ra_nil
/-! keywords -/
def pickL {α : Type} (ix : List Nat) (l : List α) : List α := ix.filterMap fun i => l[i]?
theorem pick_paired {α β : Type} {R : α → β → Prop} {l : List α} {m : List β} (h : Paired R l m) : ∀ ix : List Nat, Paired R (pickL ix l) (pickL ix m)
  | [] => .nil
  | i :: ix => by
    unfold pickL
    have ih := pick_paired h ix
    unfold pickL at ih
    have hl := Paired.length h
    rw [List.filterMap_cons, List.filterMap_cons]
    cases e : l[i]? with
    | none =>
      rw [List.getElem?_eq_none (by rw [← hl]; exact List.getElem?_eq_none_iff.mp e)]
      exact ih
    | some x =>
      obtain ⟨y, ey, r⟩ := paired_get h e
      rw [ey]
      exact .cons r ih
theorem pick_dvs {G : Hp} {W : Wd} {l : List Dat} {vs : List V} (h : Dvs G W l vs) : ∀ ix : List Nat, Dvs G W (pickL ix l) (pickL ix vs)
  | [] => .nil
  | i :: ix => by
    unfold pickL
    have ih := pick_dvs h ix
    unfold pickL at ih
    have hl := h.len
    rw [List.filterMap_cons, List.filterMap_cons]
    cases e : vs[i]? with
    | none =>
      rw [List.getElem?_eq_none (by rw [← hl]; exact List.getElem?_eq_none_iff.mp e)]
      exact ih
    | some x =>
      obtain ⟨y, ey, r⟩ := h.at e
      rw [ey]
      exact .cons r ih
/-- callable by keywords: n values by place, then those named ks; ix: where each parameter's value stands -/
structure DfK (P : Program) (w : World) (K : Frag) (mg : Str → Option Value) (base : Heap) (x : Str) (k : Nat) (ps : List Str) (n : Nat) (ks : List Str) (ix : List Nat) (sp : Sp) : Prop where
  ex : ∃ (f : Addr) (fd : FuncData), mg x = some (.ref f) ∧ keepIn K (.ref f) = true ∧ KBn K fd ps n ks (fun us ws => pickL ix (us ++ ws)) (fun vs zs => pickL ix (vs ++ zs)) ∧ FnOk P w K mg base CX0 k f fd ps sp
theorem kbn_of {K : Frag} {x qual : Str} {st : Stmt} {f : Addr} {fd : FuncData} {ps ks : List Str} {n : Nat} {ix : List Nat} (F : Fun K x qual st f fd)
    (h : ∀ (kV doc pm : Value) (an : Option Addr) (cdv ct : Value) (us ws : List Value), us.length = n → ws.length = ks.length → bindArgs (PySem.W.fnOf x qual (defArgs st) (defBody st) (defScope st) .none kV doc pm an cdv ct) ⟨us, ks.zip ws⟩ = pure (ps.zip (pickL ix (us ++ ws)))) :
    KBn K fd ps n ks (fun us ws => pickL ix (us ++ ws)) (fun vs zs => pickL ix (vs ++ zs)) := by
  obtain ⟨oc, od, kV, doc, pm, an, cdv, ct, osl, rfl, lk, hcd⟩ := F.ex
  exact ⟨fun s us ws _ h1 h2 => .of_eq (h kV doc pm an cdv ct us ws h1 h2), fun r1 r2 => pick_paired (r1.append r2) ix⟩
theorem pe_dfk {X : Cx} {x : Str} {k n : Nat} {ps ks : List Str} {ix : List Nat} {sp : Sp} {e : Expr} {es : List Expr} {kws : List Keyword} {t tk : TA} {p pos : Pos} (D : DfK X.prog X.w X.K X.mg X.base x k ps n ks ix sp) (hr : Room k X.A) (hg : Gl X x)
    (ha : PA X (e :: es) t) (hkw : PK X kws tk) (hall : (backToKw pos (keywordEach kws X.env)).all (·.1.isSome) = true := by rfl) (hks : (backToKw pos (keywordEach kws X.env)).filterMap (·.1) = ks := by rfl)
    (hdb : (x == ("__debug__" : Str)) = false := by decide) (he : starEach (e :: es) X.env = (false, eval e X.env) :: starEach es X.env := by rfl)
    (hpl : ((backTo pos (starEach (e :: es) X.env)).any (·.1) || (backToKw pos (keywordEach kws X.env)).any (·.1.isNone)) = false := by rfl) :
    PE X (.Call (.Name x p) (e :: es) kws pos) (tCallN n ks.length sp (fun vs zs => pickL ix (vs ++ zs)) E0 t tk) := by
  obtain ⟨f, fd, h1, h2, h3, h4⟩ := D.ex
  exact pe_callN h4 hr hg h1 h2 h3 pass0 ha hkw hall hks hdb he hpl
theorem pe_dfk0 {X : Cx} {x : Str} {k : Nat} {ps ks : List Str} {ix : List Nat} {sp : Sp} {kws : List Keyword} {tk : TA} {p pos : Pos} (D : DfK X.prog X.w X.K X.mg X.base x k ps 0 ks ix sp) (hr : Room k X.A) (hg : Gl X x)
    (hkw : PK X kws tk) (hall : (backToKw pos (keywordEach kws X.env)).all (·.1.isSome) = true := by rfl) (hks : (backToKw pos (keywordEach kws X.env)).filterMap (·.1) = ks := by rfl)
    (hdb : (x == ("__debug__" : Str)) = false := by decide) (hpl : ((backTo pos (starEach [] X.env)).any (·.1) || (backToKw pos (keywordEach kws X.env)).any (·.1.isNone)) = false := by rfl) :
    PE X (.Call (.Name x p) [] kws pos) (tCallN 0 ks.length sp (fun vs zs => pickL ix (vs ++ zs)) E0 tNil tk) := by
  obtain ⟨f, fd, h1, h2, h3, h4⟩ := D.ex
  refine ⟨fun pins s σ H Q I h => ?_⟩
  refine wpAny_Call_Name_kw (ld_glob I hg h1 ?_ hdb)
  refine PySem.W.callWith_KW0 (h₀ := X.base) I.ok.mod.kin h2 hall ?_ hpl
  refine thn (hkw.run pos pins s σ H _ I h) fun ws s2 ⟨zs, H2, I2, rz, l1, l2, q2⟩ => ⟨I2.kIn, ?_⟩
  rw [hks]
  exact run_fnN (us := []) (vs := []) h4 hr h3 pass0 I2 .nil rz rfl l2 q2
def dCallK (m n j : Nat) (ix : List Nat) (g : DF) (f fk : DA) : DE := fun D i Q => f D i fun ds n1 => fk D n1 fun zs n2 => (ds.length = n ∧ zs.length = j ∧ (pickL ix (shs ds ++ shs zs)).length = m) ∧ g (pickL ix (shs ds ++ shs zs)) n2 Q
theorem re_callK {m n j : Nat} {ix : List Nat} {g : DF} {t tk : TA} {f fk : DA} (a : RA t f) (b : RA tk fk) : RE (tCallN n j (spD m g) (fun vs zs => pickL ix (vs ++ zs)) E0 t tk) (dCallK m n j ix g f fk) := fun W D σ H G i q Q s h e k =>
  a.s (q := fun ds n1 => fk D n1 fun zs n2 => (ds.length = n ∧ zs.length = j ∧ (pickL ix (ds ++ shs zs)).length = m) ∧ g (pickL ix (ds ++ shs zs)) n2 q) s h (by simpa only [dCallK, shs_len] using e) fun ds n1 vs H1 G1 g1 h1 o e1 =>
    b.s (q := fun zs n2 => (ds.length = n ∧ zs.length = j ∧ (pickL ix (ds ++ zs)).length = m) ∧ g (pickL ix (ds ++ zs)) n2 q) (s.mono g1.grow) h1 (by simpa only [shs_len] using e1) fun zs n2 ws H2 G2 g2 h2 o2 ⟨⟨l1, l2, l3⟩, e2⟩ => by
      have o1 := Dvs.mono g2.grow _ o
      exact ⟨by rw [o.len]; exact l1, by rw [o2.len]; exact l2, W, G2, n2, _, q, h2, pick_dvs (o1.app o2) ix, l3, e2, k.go (g1.trans g2)⟩
end DL
set_option Elab.async false
set_option linter.all false
set_option maxRecDepth 100000
set_option maxHeartbeats 4000000
/-! statements by data alone: the slots, of which some own what they hold -/
namespace DL
open PySem PySem.Spec PySem.W PyProof.Rows L2
variable [TabsOf]
/-- the slots σ stand for D, L: the lists that they own -/
def SlO (H G : Hp) (W : Wd) : DSt → L2.St → List Addr → Prop
  | [], σ, L => σ = [] ∧ L = []
  | none :: D, σ, L => ∃ o r, σ = o :: r ∧ SlO H G W D r L
  | some d :: D, σ, L => ∃ v r M N, σ = some v :: r ∧ L = M ++ N ∧ Ow H G W d v M ∧ SlO H G W D r N
def viewD : List Bool → DSt → DSt
  | [], D => D.map fun _ => none
  | _ :: _, [] => []
  | b :: R, x :: D => (if b = true then x.map Dat.sh else none) :: viewD R D
def settD : List Bool → DSt → DSt
  | [], D => D
  | _ :: _, [] => []
  | b :: R, x :: D => (if b = true then x.map Dat.sh else x) :: settD R D
theorem SlO.keep {H H' G G' : Hp} {W : Wd} (g : Same G G') : ∀ {D : DSt} {σ : L2.St} {L : List Addr}, KpL L H H' → SlO H G W D σ L → SlO H' G' W D σ L
  | [], _, _, _, h => by unfold SlO at *; exact h
  | none :: D, _, _, k, h => by
    unfold SlO at *
    obtain ⟨o, r, e, h⟩ := h
    exact ⟨o, r, e, h.keep g k⟩
  | some d :: D, _, _, k, h => by
    unfold SlO at *
    obtain ⟨v, r, M, N, e, rfl, h1, h2⟩ := h
    exact ⟨v, r, M, N, e, rfl, Ow.keep g d (k.sub fun b hb => List.mem_append_left _ hb) h1, h2.keep g (k.sub fun b hb => List.mem_append_right _ hb)⟩
theorem SlO.lists {H G : Hp} {W : Wd} : ∀ {D : DSt} {σ : L2.St} {L : List Addr}, SlO H G W D σ L → ∀ b ∈ L, ∃ xs, H b = some (.lst xs)
  | [], _, _, h => by unfold SlO at h; rw [h.2]; intro b hb; cases hb
  | none :: D, _, _, h => by
    unfold SlO at h
    obtain ⟨o, r, e, h⟩ := h
    exact h.lists
  | some d :: D, _, _, h => by
    unfold SlO at h
    obtain ⟨v, r, M, N, e, rfl, h1, h2⟩ := h
    intro b hb
    rcases List.mem_append.mp hb with z | z
    · exact Ow.lists d h1 b z
    · exact h2.lists b z
theorem SlO.len {H G : Hp} {W : Wd} : ∀ {D : DSt} {σ : L2.St} {L : List Addr}, SlO H G W D σ L → D.length = σ.length
  | [], _, _, h => by unfold SlO at h; rw [h.1]; rfl
  | none :: D, _, _, h => by
    unfold SlO at h
    obtain ⟨o, r, rfl, h⟩ := h
    rw [List.length_cons, List.length_cons, h.len]
  | some d :: D, _, _, h => by
    unfold SlO at h
    obtain ⟨v, r, M, N, rfl, _, h1, h2⟩ := h
    rw [List.length_cons, List.length_cons, h2.len]
theorem SlD.nil {G : Hp} {W : Wd} : SlD G W [] [] := ⟨rfl, fun i d e => by simp at e⟩
theorem SlD.consN {G : Hp} {W : Wd} {D : DSt} {σ : L2.St} (o : Option V) (s : SlD G W D σ) : SlD G W (Option.none :: D) (o :: σ) := ⟨by rw [List.length_cons, List.length_cons, s.len], fun i d e => by
  cases i with
  | zero => simp at e
  | succ i => exact s.val i d (by simpa using e)⟩
theorem SlD.consS {G : Hp} {W : Wd} {D : DSt} {σ : L2.St} {d : Dat} {v : V} (h : Dv G W d v) (s : SlD G W D σ) : SlD G W (some d :: D) (some v :: σ) := ⟨by rw [List.length_cons, List.length_cons, s.len], fun i d e => by
  cases i with
  | zero =>
    have e' : some (some _) = some (some d) := e
    cases e'
    exact ⟨v, rfl, h⟩
  | succ i => exact s.val i d (by simpa using e)⟩
/-- the read slots are shared, the others keep what they own -/
theorem SlO.split {H G : Hp} {W : Wd} : ∀ (R : List Bool) {D : DSt} {σ : L2.St} {L : List Addr}, SlO H G W D σ L → ∃ LR LN, L.Perm (LR ++ LN) ∧ ∀ G', Same G G' → (∀ b ∈ LR, G' b = H b) → SlD G' W (viewD R D) σ ∧ SlO H G' W (settD R D) σ LN
  | [], D, σ, L, h => by
    refine ⟨[], L, List.Perm.refl _, fun G' g k => ⟨⟨by rw [viewD, List.length_map]; exact h.len, fun i d e => ?_⟩, h.keep g fun _ _ _ e => e⟩⟩
    rw [viewD, List.getElem?_map] at e
    cases q : D[i]? <;> rw [q] at e <;> cases e
  | b :: R, [], σ, L, h => by
    unfold SlO at h
    obtain ⟨rfl, rfl⟩ := h
    refine ⟨[], [], List.Perm.refl _, fun G' g k => ⟨SlD.nil, ?_⟩⟩
    show SlO H G' W [] _ _
    unfold SlO
    exact ⟨rfl, rfl⟩
  | b :: R, none :: D, σ, L, h => by
    unfold SlO at h
    obtain ⟨o, r, rfl, h⟩ := h
    obtain ⟨LR, LN, p, q⟩ := h.split R
    refine ⟨LR, LN, p, fun G' g k => ?_⟩
    have e1 : viewD (b :: R) (none :: D) = none :: viewD R D := by cases b <;> rfl
    have e2 : settD (b :: R) (none :: D) = none :: settD R D := by cases b <;> rfl
    rw [e1, e2]
    refine ⟨((q G' g k).1).consN o, ?_⟩
    unfold SlO
    exact ⟨o, r, rfl, (q G' g k).2⟩
  | true :: R, some d :: D, σ, L, h => by
    unfold SlO at h
    obtain ⟨v, r, M, N, rfl, rfl, h1, h⟩ := h
    obtain ⟨LR, LN, p, q⟩ := h.split R
    refine ⟨M ++ LR, LN, by rw [List.append_assoc]; exact List.Perm.append_left M p, fun G' g k => ?_⟩
    have k2 : ∀ b ∈ LR, G' b = H b := fun b hb => k b (List.mem_append_right _ hb)
    have o := Ow.shv g d (fun b hb => k b (List.mem_append_left _ hb)) h1
    refine ⟨((q G' g k2).1).consS o, ?_⟩
    show SlO H G' W (some d.sh :: settD R D) _ _
    unfold SlO
    exact ⟨v, r, [], LN, rfl, rfl, Ow.of_dv _ o, (q G' g k2).2⟩
  | false :: R, some d :: D, σ, L, h => by
    unfold SlO at h
    obtain ⟨v, r, M, N, rfl, rfl, h1, h⟩ := h
    obtain ⟨LR, LN, p, q⟩ := h.split R
    refine ⟨LR, M ++ LN, ?_, fun G' g k => ⟨((q G' g k).1).consN _, ?_⟩⟩
    · exact ((List.Perm.append_left M p).trans (by rw [← List.append_assoc, ← List.append_assoc]; exact List.Perm.append_right _ List.perm_append_comm))
    · show SlO H G' W (some d :: settD R D) _ _
      unfold SlO
      exact ⟨v, r, M, LN, rfl, rfl, Ow.keep g d (fun _ _ _ e => e) h1, (q G' g k).2⟩
/-- a slot's new value -/
theorem SlO.set {H G : Hp} {W : Wd} {d : Dat} {v : V} {M : List Addr} (ho : Ow H G W d v M) : ∀ {D : DSt} {σ : L2.St} {L : List Addr} (i : Nat), SlO H G W D σ L → ∃ L' L3, (L ++ M).Perm (L' ++ L3) ∧ SlO H G W (D.set i (some d)) (σ.set i (some v)) L'
  | [], σ, L, i, h => by
    unfold SlO at h
    obtain ⟨rfl, rfl⟩ := h
    refine ⟨[], M, List.Perm.refl _, ?_⟩
    rw [List.set_nil, List.set_nil]
    unfold SlO
    exact ⟨rfl, rfl⟩
  | none :: D, σ, L, 0, h => by
    unfold SlO at h
    obtain ⟨o, r, rfl, h⟩ := h
    refine ⟨M ++ L, [], by rw [List.append_nil]; exact List.perm_append_comm, ?_⟩
    show SlO H G W (some d :: D) (some v :: r) _
    unfold SlO
    exact ⟨v, r, M, L, rfl, rfl, ho, h⟩
  | some x :: D, σ, L, 0, h => by
    unfold SlO at h
    obtain ⟨w, r, M0, N, rfl, rfl, h1, h⟩ := h
    refine ⟨M ++ N, M0, ?_, ?_⟩
    · have p1 : ((M0 ++ N) ++ M).Perm (M ++ (M0 ++ N)) := List.perm_append_comm
      refine p1.trans ?_
      rw [List.append_assoc]
      exact List.Perm.append_left M List.perm_append_comm
    · show SlO H G W (some d :: D) (some v :: r) _
      unfold SlO
      exact ⟨v, r, M, N, rfl, rfl, ho, h⟩
  | none :: D, σ, L, i + 1, h => by
    unfold SlO at h
    obtain ⟨o, r, rfl, h⟩ := h
    obtain ⟨L', L3, p, q⟩ := h.set ho i
    refine ⟨L', L3, p, ?_⟩
    show SlO H G W (none :: D.set i (some d)) (o :: r.set i (some v)) _
    unfold SlO
    exact ⟨o, _, rfl, q⟩
  | some x :: D, σ, L, i + 1, h => by
    unfold SlO at h
    obtain ⟨w, r, M0, N, rfl, rfl, h1, h⟩ := h
    obtain ⟨L', L3, p, q⟩ := h.set ho i
    refine ⟨M0 ++ L', L3, ?_, ?_⟩
    · rw [List.append_assoc, List.append_assoc]
      exact List.Perm.append_left M0 p
    · show SlO H G W (some x :: D.set i (some d)) (some w :: r.set i (some v)) _
      unfold SlO
      exact ⟨w, _, M0, L', rfl, rfl, h1, q⟩
theorem SlO.get {H G : Hp} {W : Wd} {d : Dat} : ∀ {D : DSt} {σ : L2.St} {L : List Addr} {i : Nat}, SlO H G W D σ L → D[i]? = some (some d) → ∃ v M, σ[i]? = some (some v) ∧ M.Sublist L ∧ Ow H G W d v M
  | none :: D, σ, L, i + 1, h, e => by
    unfold SlO at h
    obtain ⟨o, r, rfl, h⟩ := h
    exact h.get (i := i) e
  | some x :: D, σ, L, 0, h, e => by
    unfold SlO at h
    obtain ⟨w, r, M0, N, rfl, rfl, h1, h⟩ := h
    have e' : some (some x) = some (some d) := e
    cases e'
    exact ⟨w, M0, rfl, List.sublist_append_left .., h1⟩
  | some x :: D, σ, L, i + 1, h, e => by
    unfold SlO at h
    obtain ⟨w, r, M0, N, rfl, rfl, h1, h⟩ := h
    obtain ⟨v, M, a, b, c⟩ := h.get (i := i) e
    exact ⟨v, M, a, b.trans (List.sublist_append_right ..), c⟩
/-- a slot's own list, and its new contents -/
theorem SlO.put {H G : Hp} {W : Wd} {l : List Dat} : ∀ {D : DSt} {σ : L2.St} {L : List Addr} {i : Nat}, SlO H G W D σ L → D[i]? = some (some (.own l)) → ∃ a xs L1 N L2, σ[i]? = some (some (.ref a)) ∧ H a = some (.lst xs) ∧ Ows H G W l xs N ∧ L = L1 ++ ((a :: N) ++ L2) ∧
    ∀ H' l' xs' N', H' a = some (.lst xs') → (∀ b ∈ L1, H' b = H b) → (∀ b ∈ L2, H' b = H b) → Ows H' G W l' xs' N' → SlO H' G W (D.set i (some (.own l'))) σ (L1 ++ ((a :: N') ++ L2))
  | none :: D, σ, L, i + 1, h, e => by
    unfold SlO at h
    obtain ⟨o, r, rfl, h⟩ := h
    obtain ⟨a, xs, L1, N, L2, h1, h2, h3, h4, h5⟩ := h.put (i := i) e
    refine ⟨a, xs, L1, N, L2, h1, h2, h3, h4, fun H' l' xs' N' q1 q2 q3 q4 => ?_⟩
    show SlO H' G W (none :: D.set i _) _ _
    unfold SlO
    exact ⟨o, r, rfl, h5 H' l' xs' N' q1 q2 q3 q4⟩
  | some x :: D, σ, L, 0, h, e => by
    unfold SlO at h
    obtain ⟨w, r, M0, N0, rfl, rfl, h1, h⟩ := h
    have e' : some (some x) = some (some (.own l)) := e
    cases e'
    unfold Ow at h1
    obtain ⟨a, xs, N, rfl, ha, rfl, ho⟩ := h1
    refine ⟨a, xs, [], N, N0, rfl, ha, ho, rfl, fun H' l' xs' N' q1 q2 q3 q4 => ?_⟩
    show SlO H' G W (some (.own l') :: D) _ _
    unfold SlO
    refine ⟨.ref a, r, a :: N', N0, rfl, rfl, ?_, h.keep Same.refl fun b hb xs e => by rw [q3 b hb]; exact e⟩
    unfold Ow
    exact ⟨a, xs', N', rfl, q1, rfl, q4⟩
  | some x :: D, σ, L, i + 1, h, e => by
    unfold SlO at h
    obtain ⟨w, r, M0, N0, rfl, rfl, h1, h⟩ := h
    obtain ⟨a, xs, L1, N, L2, h2, h3, h4, h5, h6⟩ := h.put (i := i) e
    refine ⟨a, xs, M0 ++ L1, N, L2, h2, h3, h4, by rw [h5, List.append_assoc], fun H' l' xs' N' q1 q2 q3 q4 => ?_⟩
    show SlO H' G W (some x :: D.set i _) _ _
    unfold SlO
    exact ⟨w, r, M0, _, rfl, by rw [List.append_assoc], Ow.keep Same.refl _ (fun b hb xs e => by rw [q2 b (List.mem_append_left _ hb)]; exact e) h1, h6 H' l' xs' N' q1 (fun b hb => q2 b (List.mem_append_right _ hb)) q3 q4⟩
/-- what may change is there -/
def Ns (W : Wd) (H0 : Hp) : Prop := ∀ b, W.mv b → H0 b ≠ none
theorem Ns.ne {W : Wd} {H0 : Hp} (h : Ns W H0) {p : Addr} (hp : H0 p = none) : ¬ W.mv p := fun z => h p z hp
theorem Hs.ns {W : Wd} {H G : Hp} {n : Int} (h : Hs W H G n) : Ns W H := fun b hb z => h.ne z hb
theorem hs_shareN {W : Wd} {H H' G' : Hp} {n' : Int} {L : List Addr} (h : Ns W H) (h' : Hs W H' G' n') (fr : ∀ b ∈ L, H b = none ∧ G' b = none) (li : ∀ b ∈ L, ∃ xs, H' b = some (.lst xs)) : Hs W H' (addL L G' H') n' :=
  ⟨addL_le h'.le, h'.str, h'.tab, fun b hb => by
    rw [addL_out fun hl => h.ne (fr b hl).1 hb]
    exact h'.out b hb, addL_nt h'.nt li⟩
/-- the state within a def -/
structure Sst (W : Wd) (H0 G0 : Hp) (D : DSt) (n : Int) (σ : L2.St) (H G : Hp) (L : List Addr) : Prop where
  go : Go W H0 G0 H G
  hs : Hs W H G n
  sl : SlO H G W D σ L
  nd : L.Nodup
  fr : ∀ b ∈ L, H0 b = none ∧ G b = none
structure DEnds where
  nx : DSt → Int → Prop
  rt : Dat → Int → Prop
  bk : DSt → Int → Prop := fun _ _ => False
  ct : DSt → Int → Prop := fun _ _ => False
abbrev DS := DEnds → DSt → Int → Prop
structure EOk (W : Wd) (H0 G0 : Hp) (K : DEnds) (E : Ends) : Prop where
  nx : ∀ D n σ H G L, Sst W H0 G0 D n σ H G L → K.nx D n → E.nx σ H
  rt : KE W H0 G0 K.rt E.rt
  bk : ∀ D n σ H G L, Sst W H0 G0 D n σ H G L → K.bk D n → E.bk σ H
  ct : ∀ D n σ H G L, Sst W H0 G0 D n σ H G L → K.ct D n → E.ct σ H
def RS (t : TS) (f : DS) : Prop := ∀ (W : Wd) (H0 G0 : Hp) (K : DEnds) (E : Ends) (D : DSt) (n : Int) (σ : L2.St) (H G : Hp) (L : List Addr), Ns W H0 → EOk W H0 G0 K E → Sst W H0 G0 D n σ H G L → f K D n → t E σ H
/-- behind an expression that read the slots R and gave ds -/
def aftD (R : List Bool) (c : Bool) (D : DSt) : DSt := if c = true then D else settD R D
/-- how the heap goes on while the slots that own L may share them -/
structure Gx (W : Wd) (L : List Addr) (H G H' G' : Hp) : Prop where
  but : ∀ b o, H b = some o → (W.use = true → ∀ ps, o ≠ .tbl ps) → ¬ W.mv b → H' b = some o
  dom : ∀ b, H' b = none → H b = none
  grow : Same G G'
  kept : ∀ b o, H b = some o → G b = none → b ∉ L → G' b = none
/-- within a def: the slots R are shared while an expression runs; behind it (what it gave: ds) -/
theorem Sst.core {W : Wd} {H0 G0 H G : Hp} {n : Int} {D : DSt} {σ : L2.St} {L : List Addr} (h0 : Ns W H0) (S : Sst W H0 G0 D n σ H G L) (R : List Bool) :
    ∃ Gs, Same G Gs ∧ SlD Gs W (viewD R D) σ ∧ Hs W H Gs n ∧ Go W H0 G0 H Gs ∧ ∀ ds n' vs H' G1 M, Go W H Gs H' G1 → Hs W H' G1 n' → OwNs W H H' G1 ds vs M →
      ∃ G' L', Sst W H0 G0 (aftD R (closs ds) D) n' σ H' G' L' ∧ Gx W L H G H' G' ∧ (∀ b ∈ L', b ∈ L) ∧ Ows H' G' W ds vs M ∧ M.Nodup ∧ (∀ b ∈ M, H b = none ∧ G' b = none) := by
  obtain ⟨LR, LN, p, sp⟩ := S.sl.split R
  have mem : ∀ b, b ∈ L ↔ b ∈ LR ∨ b ∈ LN := fun b => by rw [p.mem_iff, List.mem_append]
  have nd := (p.nodup_iff.mp S.nd)
  have frR : ∀ b ∈ LR, H0 b = none ∧ G b = none := fun b hb => S.fr b ((mem b).mpr (.inl hb))
  have lst : ∀ b ∈ L, ∃ xs, H b = some (.lst xs) := S.sl.lists
  have gs : Go W H0 G0 H (addL LR G H) := go_share S.go frR
  have hs := hs_shareN h0 S.hs frR fun b hb => S.sl.lists b ((mem b).mpr (.inl hb))
  have gw : Same G (addL LR G H) := addL_grow fun b hb => (frR b hb).2
  obtain ⟨sv, so⟩ := sp (addL LR G H) gw fun b hb => addL_in hb
  refine ⟨addL LR G H, gw, sv, hs, gs, fun ds n' vs H' G1 M g h' o => ?_⟩
  have kpL : KpL L H H' := fun b hb xs e => g.but b _ e (fun _ ps z => by cases z) (h0.ne (S.fr b hb).1)
  have gg := gs.trans g
  have kept : ∀ b u, H b = some u → G b = none → b ∉ L → G1 b = none := fun b u e1 e2 e3 => go_gnone g e1 (by rw [addL_out fun z => e3 ((mem b).mpr (.inl z))]; exact e2)
  cases hc : closs ds with
  | false =>
    refine ⟨G1, LN, ?_, ⟨g.but, g.dom, gw.trans g.grow, kept⟩, (fun b hb => (mem b).mpr (.inr hb)), o.ow, o.nd, o.fr⟩
    refine ⟨gg, h', so.keep g.grow (kpL.sub fun b hb => (mem b).mpr (.inr hb)), (List.nodup_append.mp nd).2.1, fun b hb => ⟨(S.fr b ((mem b).mpr (.inr hb))).1, ?_⟩⟩
    obtain ⟨xs, e⟩ := lst b ((mem b).mpr (.inr hb))
    refine go_gnone g e ?_
    rw [addL_out fun z => (List.nodup_append.mp nd).2.2 b z b hb rfl]
    exact (S.fr b ((mem b).mpr (.inr hb))).2
  | true =>
    have cut : ∀ b u, G1 b = some u → b ∉ LR → (fun b => if b ∈ LR then none else G1 b) b = some u := fun b u e z => by
      show (if b ∈ LR then none else G1 b) = some u
      rw [if_neg z]
      exact e
    have unc : ∀ b u, (fun b => if b ∈ LR then none else G1 b) b = some u → b ∉ LR ∧ G1 b = some u := fun b u e => by
      have e : (if b ∈ LR then none else G1 b) = some u := e
      by_cases z : b ∈ LR
      · rw [if_pos z] at e
        cases e
      · rw [if_neg z] at e
        exact ⟨z, e⟩
    have nn : ∀ b, G1 b = none → (fun b => if b ∈ LR then none else G1 b) b = none := fun b e => by
      show (if b ∈ LR then none else G1 b) = none
      split
      · rfl
      · exact e
    have gGr : Same G (fun b => if b ∈ LR then none else G1 b) := fun b u e => cut b u (g.grow _ _ (gw _ _ e)) fun z => by
      rw [(frR b z).2] at e
      cases e
    refine ⟨(fun b => if b ∈ LR then none else G1 b), L, ?_, ⟨g.but, g.dom, gGr, fun b u e1 e2 e3 => nn b (kept b u e1 e2 e3)⟩, (fun b hb => hb), ?_, o.nd, (fun b hb => ⟨(o.fr b hb).1, nn b (o.fr b hb).2⟩)⟩
    · refine ⟨⟨gg.but, gg.dom, S.go.grow.trans gGr, fun b u e => gg.new b u (unc b u e).2⟩, ⟨fun b u e => h'.le _ _ (unc b u e).2, h'.str, h'.tab, fun b hb => nn b (h'.out b hb), fun b u e => h'.nt b u (unc b u e).2⟩, S.sl.keep gGr kpL, S.nd, fun b hb => ⟨(S.fr b hb).1, ?_⟩⟩
      by_cases z : b ∈ LR
      · exact if_pos z
      · refine nn b ?_
        obtain ⟨xs, e⟩ := lst b hb
        exact go_gnone g e (by rw [addL_out z]; exact (S.fr b hb).2)
    · refine Ows.closd (fun b xs e => cut b _ e fun z => ?_) ds hc o.ow
      obtain ⟨ys, ey⟩ := lst b ((mem b).mpr (.inl z))
      have := kpL b ((mem b).mpr (.inl z)) _ ey
      rw [h'.le _ _ e] at this
      cases this
theorem Sst.evals {W : Wd} {H0 G0 H G : Hp} {n : Int} {D : DSt} {σ : L2.St} {L : List Addr} (h0 : Ns W H0) (S : Sst W H0 G0 D n σ H G L) (R : List Bool) {t : TA} {f : DA} (r : RA t f) {q : List Dat → Int → Prop} {Q : List V → Hp → Prop} (e : f (viewD R D) n q)
    (k : ∀ ds n' vs H' G' L' M, Sst W H0 G0 (aftD R (closs ds) D) n' σ H' G' L' → Gx W L H G H' G' → (∀ b ∈ L', b ∈ L) → Ows H' G' W ds vs M → M.Nodup → (∀ b ∈ M, H b = none ∧ G' b = none) → q ds n' → Q vs H') : t σ H Q := by
  obtain ⟨Gs, _, sv, hs, gs, fin⟩ := S.core h0 R
  refine r W _ σ H Gs n q Q sv hs e fun ds n' vs H' G1 M g h' o eq => ?_
  obtain ⟨G', L', a1, a2, a3, a4, a5, a6⟩ := fin ds n' vs H' G1 M g h' o
  exact k ds n' vs H' G' L' M a1 a2 a3 a4 a5 a6 eq
theorem closs1 (d : Dat) : closs [d] = d.clos := by unfold closs closs; exact Bool.and_true _
theorem ows1 {H G : Hp} {W : Wd} {d : Dat} {v : V} {M : List Addr} (h : Ows H G W [d] [v] M) : Ow H G W d v M := by
  unfold Ows Ows at h
  obtain ⟨x, r, M', N, e, rfl, ow, er, rfl⟩ := h
  subst er
  cases e
  rw [List.append_nil]
  exact ow
/-- one expression -/
theorem Sst.eval {W : Wd} {H0 G0 H G : Hp} {n : Int} {D : DSt} {σ : L2.St} {L : List Addr} (h0 : Ns W H0) (S : Sst W H0 G0 D n σ H G L) (R : List Bool) {t : TE} {f : DE} (r : RE t f) {q : Dat → Int → Prop} {Q : VK} (e : f (viewD R D) n q)
    (k : ∀ d n' v H' G' L' M, Sst W H0 G0 (aftD R d.clos D) n' σ H' G' L' → Gx W L H G H' G' → (∀ b ∈ L', b ∈ L) → Ow H' G' W d v M → M.Nodup → (∀ b ∈ M, H b = none ∧ G' b = none) → q d n' → Q v H') : t σ H Q := by
  obtain ⟨Gs, _, sv, hs, gs, fin⟩ := S.core h0 R
  refine r W _ σ H Gs n q Q sv hs e fun d n' v H' G1 M g h' o eq => ?_
  obtain ⟨G', L', a1, a2, a3, a4, a5, a6⟩ := fin [d] n' [v] H' G1 M g h' ⟨Ows.one o.ow, o.nd, o.fr⟩
  rw [closs1] at a1
  exact k d n' v H' G' L' M a1 a2 a3 (ows1 a4) a5 a6 eq
/-- a test: all slots are as they were -/
theorem Sst.test {W : Wd} {H0 G0 H G : Hp} {n : Int} {D : DSt} {σ : L2.St} {L : List Addr} (h0 : Ns W H0) (S : Sst W H0 G0 D n σ H G L) (R : List Bool) {t : TT} {f : DT} (r : RT t f) {q : Bool → Int → Prop} {Q : Bool → Hp → Prop} (e : f (viewD R D) n q)
    (k : ∀ b n' H' G' L', Sst W H0 G0 D n' σ H' G' L' → q b n' → Q b H') : t σ H Q := by
  obtain ⟨Gs, _, sv, hs, gs, fin⟩ := S.core h0 R
  refine r W _ σ H Gs n q Q sv hs e fun b n' H' G1 g h' eq => ?_
  obtain ⟨G', L', a1, a2, a3, a4, a5, a6⟩ := fin [] n' [] H' G1 [] g h' ⟨Ows.nil, List.nodup_nil, fun b hb => by cases hb⟩
  exact k b n' H' G' L' a1 eq
/-- what is walked: it stays shared -/
theorem Sst.walk {W : Wd} {H0 G0 H G : Hp} {n : Int} {D : DSt} {σ : L2.St} {L : List Addr} (h0 : Ns W H0) (S : Sst W H0 G0 D n σ H G L) (R : List Bool) {t : TI} {f : DI} (r : RI t f) {q : List Dat → Int → Prop} {Q : It → Hp → Prop} (e : f (viewD R D) n q)
    (k : ∀ l n' J H' G' L', Sst W H0 G0 (settD R D) n' σ H' G' L' → ItD J W G' l → q l n' → Q J H') : t σ H Q := by
  obtain ⟨LR, LN, p, sp⟩ := S.sl.split R
  have mem : ∀ b, b ∈ L ↔ b ∈ LR ∨ b ∈ LN := fun b => by rw [p.mem_iff, List.mem_append]
  have nd := (p.nodup_iff.mp S.nd)
  have frR : ∀ b ∈ LR, H0 b = none ∧ G b = none := fun b hb => S.fr b ((mem b).mpr (.inl hb))
  have hs := hs_shareN h0 S.hs frR fun b hb => S.sl.lists b ((mem b).mpr (.inl hb))
  obtain ⟨sv, so⟩ := sp (addL LR G H) (addL_grow fun b hb => (frR b hb).2) fun b hb => addL_in hb
  refine r W _ σ H _ n q Q sv hs e fun l n' J H' G1 g h' it eq => k l n' J H' G1 LN ⟨(go_share S.go frR).trans g, h', so.keep g.grow fun b hb xs e => g.but b _ e (fun _ ps z => by cases z) (h0.ne (S.fr b ((mem b).mpr (.inr hb))).1), (List.nodup_append.mp nd).2.1, fun b hb => ⟨(S.fr b ((mem b).mpr (.inr hb))).1, ?_⟩⟩ it eq
  obtain ⟨xs, e⟩ := S.sl.lists b ((mem b).mpr (.inr hb))
  refine go_gnone g e ?_
  rw [addL_out fun z => (List.nodup_append.mp nd).2.2 b z b hb rfl]
  exact (S.fr b ((mem b).mpr (.inr hb))).2
/-- a slot's new value, that is held nowhere else -/
theorem Sst.set {W : Wd} {H0 G0 H G : Hp} {n : Int} {D : DSt} {σ : L2.St} {L M : List Addr} {d : Dat} {v : V} (S : Sst W H0 G0 D n σ H G L) (i : Nat) (o : Ow H G W d v M) (nd : M.Nodup) (fr : ∀ b ∈ M, H0 b = none ∧ G b = none) (dis : ∀ b ∈ M, b ∉ L) : ∃ L', Sst W H0 G0 (D.set i (some d)) n (σ.set i (some v)) H G L' ∧ ∀ b ∈ L', b ∈ L ∨ b ∈ M := by
  obtain ⟨L', L3, p, s⟩ := S.sl.set o i
  have nd2 : (L ++ M).Nodup := List.nodup_append.mpr ⟨S.nd, nd, fun a ha b hb z => dis b hb (z ▸ ha)⟩
  have mem : ∀ b ∈ L', b ∈ L ∨ b ∈ M := fun b hb => by
    have : b ∈ L ++ M := p.mem_iff.mpr (List.mem_append_left _ hb)
    exact List.mem_append.mp this
  refine ⟨L', ⟨S.go, S.hs, s, (List.nodup_append.mp (p.nodup_iff.mp nd2)).1, fun b hb => ?_⟩, mem⟩
  rcases mem b hb with z | z
  · exact S.fr b z
  · exact fr b z
theorem Sst.setS {W : Wd} {H0 G0 H G : Hp} {n : Int} {D : DSt} {σ : L2.St} {L : List Addr} {d : Dat} {v : V} (S : Sst W H0 G0 D n σ H G L) (i : Nat) (o : Dv G W d v) : ∃ L', Sst W H0 G0 (D.set i (some d)) n (σ.set i (some v)) H G L' := by
  obtain ⟨L', s, _⟩ := S.set i (Ow.of_dv _ o) List.nodup_nil (fun b hb => by cases hb) (fun b hb => by cases hb)
  exact ⟨L', s⟩
/-! the statements -/
def dNext : DS := fun K D n => K.nx D n
def dSeq (f g : DS) : DS := fun K D n => f { K with nx := g K } D n
def dBreak : DS := fun K D n => K.bk D n
def dCont : DS := fun K D n => K.ct D n
def dNever : DS := fun _ _ _ => False
theorem rs_next : RS tNext dNext := fun W H0 G0 K E D n σ H G L h0 ok S e => ok.nx D n σ H G L S e
theorem rs_break : RS tBreak dBreak := fun W H0 G0 K E D n σ H G L h0 ok S e => ok.bk D n σ H G L S e
theorem rs_cont : RS tCont dCont := fun W H0 G0 K E D n σ H G L h0 ok S e => ok.ct D n σ H G L S e
theorem rs_never : RS tNever dNever := fun W H0 G0 K E D n σ H G L h0 ok S e => e
theorem rs_seq {t u : TS} {f g : DS} (a : RS t f) (b : RS u g) : RS (tSeq t u) (dSeq f g) := fun W H0 G0 K E D n σ H G L h0 ok S e =>
  a W H0 G0 { K with nx := g K } { E with nx := u E } D n σ H G L h0 ⟨fun D' n' σ' H' G' L' S' e' => b W H0 G0 K E D' n' σ' H' G' L' h0 ok S' e', ok.rt, ok.bk, ok.ct⟩ S e
def dIfS (R : List Bool) (c : DT) (f g : DS) : DS := fun K D n => c (viewD R D) n fun b n1 => if b = true then f K D n1 else g K D n1
theorem rs_if (R : List Bool) {c : TT} {t u : TS} {fc : DT} {f g : DS} (rc : RT c fc) (a : RS t f) (b : RS u g) : RS (tIfS c t u) (dIfS R fc f g) := fun W H0 G0 K E D n σ H G L h0 ok S e =>
  S.test h0 R rc e fun c n1 H1 G1 L1 S1 e1 => by
    cases c with
    | true => exact iteT (a W H0 G0 K E D n1 σ H1 G1 L1 h0 ok S1 e1)
    | false => exact iteF (b W H0 G0 K E D n1 σ H1 G1 L1 h0 ok S1 e1)
theorem Sst.fresh {W : Wd} {H0 G0 H G : Hp} {D : DSt} {n : Int} {σ : L2.St} {L M : List Addr} {G' : Hp} (S : Sst W H0 G0 D n σ H G L) (fr : ∀ b ∈ M, H b = none ∧ G' b = none) : ∀ b ∈ M, H0 b = none ∧ G' b = none := fun b hb => ⟨S.go.dom b (fr b hb).1, (fr b hb).2⟩
theorem Sst.apart {W : Wd} {H0 G0 H G : Hp} {D : DSt} {n : Int} {σ : L2.St} {L L' M : List Addr} {G' : Hp} (S : Sst W H0 G0 D n σ H G L) (sub : ∀ b ∈ L', b ∈ L) (fr : ∀ b ∈ M, H b = none ∧ G' b = none) : ∀ b ∈ M, b ∉ L' := fun b hb z => by
  obtain ⟨xs, e⟩ := S.sl.lists b (sub b z)
  rw [(fr b hb).1] at e
  cases e
def dSet (i : Nat) (R : List Bool) (f : DE) : DS := fun K D n => f (viewD R D) n fun d n1 => K.nx ((aftD R d.clos D).set i (some d)) n1
theorem rs_set (i : Nat) (R : List Bool) {t : TE} {f : DE} (a : RE t f) : RS (tAsg t (gName i)) (dSet i R f) := fun W H0 G0 K E D n σ H G L h0 ok S e =>
  S.eval h0 R a e fun d n1 v H1 G1 L1 M S1 gx sub o nd fr e1 => by
    obtain ⟨L2, S2, _⟩ := S1.set i o nd (S.fresh fr) (S.apart sub fr)
    exact ok.nx _ n1 _ H1 G1 L2 S2 e1
def dDrop (R : List Bool) (f : DE) : DS := fun K D n => f (viewD R D) n fun d n1 => K.nx (aftD R d.clos D) n1
theorem rs_drop (R : List Bool) {t : TE} {f : DE} (a : RE t f) : RS (tDrop t) (dDrop R f) := fun W H0 G0 K E D n σ H G L h0 ok S e =>
  S.eval h0 R a e fun d n1 v H1 G1 L1 M S1 gx sub o nd fr e1 => ok.nx _ n1 _ H1 G1 L1 S1 e1
def dRet (R : List Bool) (f : DE) : DS := fun K D n => f (viewD R D) n K.rt
theorem rs_ret (R : List Bool) {t : TE} {f : DE} (a : RE t f) : RS (tRet t) (dRet R f) := fun W H0 G0 K E D n σ H G L h0 ok S e => by
  obtain ⟨Gs, _, sv, hs, gs, fin⟩ := S.core h0 R
  exact a W _ σ H Gs n K.rt E.rt sv hs e (ok.rt.go gs)
def dRetN : DS := fun K _ n => K.rt .non n
theorem rs_retN : RS tRetN dRetN := fun W H0 G0 K E D n σ H G L h0 ok S e => ok.rt.dv S.go S.hs (d := .non) (by unfold Dv; rfl) e
/-- a slot is handed back, with all that it owns -/
def dRetV (i : Nat) : DS := fun K D n => ∃ d, D[i]? = some (some d) ∧ K.rt d n
theorem rs_retV (i : Nat) : RS (tRet (tVar i)) (dRetV i) := fun W H0 G0 K E D n σ H G L h0 ok S ⟨d, e, e1⟩ => by
  obtain ⟨v, M, h1, h2, h3⟩ := S.sl.get e
  exact ⟨v, h1, ok.rt d n v H G M S.go S.hs ⟨h3, h2.nodup S.nd, fun b hb => S.fr b (h2.subset hb)⟩ e1⟩
def dPar (i j : Nat) (R : List Bool) (f : DA) : DS := fun K D n => f (viewD R D) n fun ds n1 => ∃ d e, ds = [d, e] ∧ K.nx (((aftD R (closs ds) D).set i (some d)).set j (some e)) n1
theorem Ows.split {H G : Hp} {W : Wd} {d : Dat} {l : List Dat} {vs : List V} {M : List Addr} (h : Ows H G W (d :: l) vs M) : ∃ v r M1 M2, vs = v :: r ∧ M = M1 ++ M2 ∧ Ow H G W d v M1 ∧ Ows H G W l r M2 := by
  unfold Ows at h
  exact h
theorem rs_par (i j : Nat) (R : List Bool) {t : TA} {f : DA} (a : RA t f) : RS (tPar i j t) (dPar i j R f) := fun W H0 G0 K E D n σ H G L h0 ok S e =>
  S.evals h0 R a e fun ds n1 vs H1 G1 L1 M S1 gx sub o nd fr ⟨d, d2, ed, e1⟩ => by
    have S1' := S1
    subst ed
    obtain ⟨v, r, M1, M2, rfl, rfl, o1, o2⟩ := o.split
    obtain ⟨w, r2, M3, M4, rfl, rfl, o3, o4⟩ := o2.split
    unfold Ows at o4
    obtain ⟨rfl, rfl⟩ := o4
    rw [List.append_nil] at nd fr
    have nds := List.nodup_append.mp nd
    have f0 := S.fresh fr
    have ap := S.apart sub fr
    obtain ⟨L2, S2, m2⟩ := S1'.set i o1 nds.1 (fun b hb => f0 b (List.mem_append_left _ hb)) (fun b hb => ap b (List.mem_append_left _ hb))
    obtain ⟨L3, S3, _⟩ := S2.set j o3 nds.2.1 (fun b hb => f0 b (List.mem_append_right _ hb)) (fun b hb z => by
      rcases m2 b z with z | z
      · exact ap b (List.mem_append_right _ hb) z
      · exact nds.2.2 b z b hb rfl)
    exact ⟨v, w, rfl, ok.nx _ n1 _ H1 G1 L3 S3 e1⟩
end DL
set_option Elab.async false
set_option linter.all false
set_option maxRecDepth 100000
set_option maxHeartbeats 4000000
/-! statements: targets, lists that are changed, loops -/
namespace DL
open PySem PySem.Spec PySem.W PyProof.Rows L2
variable [TabsOf]
/-! targets of an assignment -/
/-- with own slots: the value that is stored owns M -/
def RGO (g : TG) (fg : DG) : Prop := ∀ (W : Wd) (D : DSt) (σ : L2.St) (H G : Hp) (L M : List Addr) (d : Dat) (v : V) (q : DSt → Prop) (Q : L2.St → Hp → Prop), Same G H → SlO H G W D σ L → Ow H G W d v M → fg d D q → (∀ D' σ' L' L3, SlO H G W D' σ' L' → (L ++ M).Perm (L' ++ L3) → q D' → Q σ' H) → g v σ H Q
theorem rgo_name (i : Nat) : RGO (gName i) (dgName i) := fun W D σ H G L M d v q Q le s o e k => by
  obtain ⟨L', L3, p, s'⟩ := s.set o i
  exact k _ _ L' L3 s' p e
def RGOs (g : TGs) (fg : DGs) : Prop := ∀ (W : Wd) (D : DSt) (σ : L2.St) (H G : Hp) (L M : List Addr) (d : List Dat) (v : List V) (q : DSt → Prop) (Q : L2.St → Hp → Prop), Same G H → SlO H G W D σ L → Ows H G W d v M → fg d D q → (∀ D' σ' L' L3, SlO H G W D' σ' L' → (L ++ M).Perm (L' ++ L3) → q D' → Q σ' H) → g v σ H Q
theorem rgos_nil : RGOs gNil dgNil := fun W D σ H G L M d v q Q le s o e k => by
  cases d with
  | nil =>
    unfold Ows at o
    obtain ⟨rfl, rfl⟩ := o
    exact ⟨rfl, k D σ L [] s (List.Perm.refl _) e⟩
  | cons _ _ => exact e.elim
theorem rgos_cons {g : TG} {f : DG} {t : TGs} {u : DGs} (a : RGO g f) (b : RGOs t u) : RGOs (gCons g t) (dgCons f u) := fun W D σ H G L M d v q Q le s o e k => by
  cases d with
  | nil => exact e.elim
  | cons d l =>
    obtain ⟨x, r, M1, M2, rfl, rfl, o1, o2⟩ := o.split
    refine ⟨x, r, rfl, a W D σ H G L M1 d x _ _ le s o1 e fun D1 σ1 L1 L3 s1 p1 e1 => b W D1 σ1 H G L1 M2 l r q Q le s1 o2 e1 fun D2 σ2 L2 L4 s2 p2 e2 => k D2 σ2 L2 (L3 ++ L4) s2 ?_ e2⟩
    -- L ++ (M1 ++ M2) ~ L1 ++ L3 ++ M2 ~ L2 ++ (L3 ++ L4)
    have h1 : (L ++ (M1 ++ M2)).Perm ((L1 ++ L3) ++ M2) := by rw [← List.append_assoc]; exact List.Perm.append_right _ p1
    have h2 : ((L1 ++ L3) ++ M2).Perm ((L1 ++ M2) ++ L3) := by rw [List.append_assoc, List.append_assoc]; exact List.Perm.append_left _ List.perm_append_comm
    have h3 : ((L1 ++ M2) ++ L3).Perm ((L2 ++ L4) ++ L3) := List.Perm.append_right _ p2
    have h4 : ((L2 ++ L4) ++ L3).Perm (L2 ++ (L3 ++ L4)) := by rw [List.append_assoc]; exact List.Perm.append_left _ List.perm_append_comm
    exact ((h1.trans h2).trans h3).trans h4
theorem rgo_tup {K : Frag} {g : TGs} {f : DGs} {m : Nat} (a : RGOs g f) : RGO (gTup K m g) (dgTup m f) := fun W D σ H G L M d v q Q le s o e k => by
  unfold dgTup at e
  split at e
  · unfold Ow at o
    obtain ⟨p, xs, rfl, h1, o1⟩ := o
    exact ⟨p, xs, rfl, SqT.of (le _ _ h1), by rw [o1.len]; exact e.1, a W D σ H G L M _ _ q Q le s o1 e.2 k⟩
  · exact e.elim
/-- from a tuple or a list -/
def dgSeq (n : Nat) (f : DGs) : DG
  | .tup l, D, Q => l.length = n ∧ f l D Q
  | .lst l, D, Q => l.length = n ∧ f l D Q
  | .own l, D, Q => l.length = n ∧ f l D Q
  | _, _, _ => False
theorem pg_or {X : Cx} {tg : Expr} {g g' : TG} (h : PG X tg g) (h' : PG X tg g') : PG X tg (fun v σ H Q => g v σ H Q ∨ g' v σ H Q) := by
  refine ⟨fun pins s σ H v u Q I r hq => ?_⟩
  rcases hq with hq | hq
  · exact h.run pins s σ H v u Q I r hq
  · exact h'.run pins s σ H v u Q I r hq
theorem rgo_seq {K : Frag} {g : TGs} {f : DGs} {m : Nat} (a : RGOs g f) : RGO (fun v σ H Q => gTup K m g v σ H Q ∨ gLst K m g v σ H Q) (dgSeq m f) := fun W D σ H G L M d v q Q le s o e k => by
  unfold dgSeq at e
  split at e
  · unfold Ow at o
    obtain ⟨p, xs, rfl, h1, o1⟩ := o
    exact .inl ⟨p, xs, rfl, SqT.of (le _ _ h1), by rw [o1.len]; exact e.1, a W D σ H G L M _ _ q Q le s o1 e.2 k⟩
  · unfold Ow at o
    obtain ⟨⟨p, xs, rfl, h1, o1⟩, rfl⟩ := o
    exact .inr ⟨p, xs, rfl, SqL.of (le _ _ h1), by rw [o1.len]; exact e.1, a W D σ H G L [] _ _ q Q le s (Ows.of_dvs _ o1) e.2 k⟩
  · unfold Ow at o
    obtain ⟨p, xs, N, rfl, h1, rfl, o1⟩ := o
    refine .inr ⟨p, xs, rfl, SqL.of h1, by rw [o1.len]; exact e.1, a W D σ H G L N _ _ q Q le s o1 e.2 fun D' σ' L' L3 s' p' e' => k D' σ' L' (p :: L3) s' ?_ e'⟩
    have h2 : (L ++ p :: N).Perm (p :: (L ++ N)) := List.perm_middle
    have h3 : (p :: (L ++ N)).Perm (p :: (L' ++ L3)) := List.Perm.cons _ p'
    exact (h2.trans h3).trans List.perm_middle.symm
  · exact e.elim
theorem perm_sub {L M L' L3 : List Addr} (p : (L ++ M).Perm (L' ++ L3)) : ∀ b ∈ L', b ∈ L ∨ b ∈ M := fun b hb => List.mem_append.mp (p.mem_iff.mpr (List.mem_append_left _ hb))
theorem Sst.tgt {W : Wd} {H0 G0 H G : Hp} {n : Int} {D : DSt} {σ : L2.St} {L M : List Addr} {d : Dat} {v : V} (S : Sst W H0 G0 D n σ H G L) {g : TG} {fg : DG} (r : RGO g fg) (o : Ow H G W d v M) (nd : M.Nodup) (fr : ∀ b ∈ M, H0 b = none ∧ G b = none) (dis : ∀ b ∈ M, b ∉ L) {q : DSt → Prop} {Q : L2.St → Hp → Prop} (e : fg d D q)
    (k : ∀ D' σ' L', Sst W H0 G0 D' n σ' H G L' → q D' → Q σ' H) : g v σ H Q :=
  r W D σ H G L M d v q Q S.hs.le S.sl o e fun D' σ' L' L3 s' p e' => k D' σ' L' ⟨S.go, S.hs, s', (List.nodup_append.mp (p.nodup_iff.mp (List.nodup_append.mpr ⟨S.nd, nd, fun a ha b hb z => dis b hb (z ▸ ha)⟩))).1, fun b hb => (perm_sub p b hb).elim (S.fr b) (fr b)⟩ e'
def dAsg (R : List Bool) (f : DE) (fg : DG) : DS := fun K D n => f (viewD R D) n fun d n1 => fg d (aftD R d.clos D) fun D' => K.nx D' n1
theorem rs_asg (R : List Bool) {t : TE} {f : DE} {g : TG} {fg : DG} (a : RE t f) (b : RGO g fg) : RS (tAsg t g) (dAsg R f fg) := fun W H0 G0 K E D n σ H G L h0 ok S e =>
  S.eval h0 R a e fun d n1 v H1 G1 L1 M S1 gx sub o nd fr e1 => S1.tgt b o nd (S.fresh fr) (S.apart sub fr) e1 fun D' σ' L' S' e' => ok.nx D' n1 σ' H1 G1 L' S' e'
def dPar3 (i j l : Nat) (R : List Bool) (f : DA) : DS := fun K D n => f (viewD R D) n fun ds n1 => ∃ d e g, ds = [d, e, g] ∧ K.nx ((((aftD R (closs ds) D).set i (some d)).set j (some e)).set l (some g)) n1
theorem rs_par3 (i j l : Nat) (R : List Bool) {t : TA} {f : DA} (a : RA t f) : RS (tPar3 i j l t) (dPar3 i j l R f) := fun W H0 G0 K E D n σ H G L h0 ok S e =>
  S.evals h0 R a e fun ds n1 vs H1 G1 L1 M S1 gx sub o nd fr ⟨d, d2, d3, ed, e1⟩ => by
    have S1' := S1
    subst ed
    obtain ⟨v, r, M1, Mr, rfl, rfl, o1, o2⟩ := o.split
    obtain ⟨w, r2, M2, Mr2, rfl, rfl, o3, o4⟩ := o2.split
    obtain ⟨x, r3, M3, Mr3, rfl, rfl, o5, o6⟩ := o4.split
    unfold Ows at o6
    obtain ⟨rfl, rfl⟩ := o6
    rw [List.append_nil] at nd fr
    have n1' := List.nodup_append.mp nd
    have n2' := List.nodup_append.mp n1'.2.1
    have f0 := S.fresh fr
    have ap := S.apart sub fr
    obtain ⟨L2, S2, m2⟩ := S1'.set i o1 n1'.1 (fun b hb => f0 b (List.mem_append_left _ hb)) (fun b hb => ap b (List.mem_append_left _ hb))
    obtain ⟨L3, S3, m3⟩ := S2.set j o3 n2'.1 (fun b hb => f0 b (List.mem_append_right _ (List.mem_append_left _ hb))) (fun b hb z => by
      rcases m2 b z with z | z
      · exact ap b (List.mem_append_right _ (List.mem_append_left _ hb)) z
      · exact n1'.2.2 b z b (List.mem_append_left _ hb) rfl)
    obtain ⟨L4, S4, _⟩ := S3.set l o5 n2'.2.1 (fun b hb => f0 b (List.mem_append_right _ (List.mem_append_right _ hb))) (fun b hb z => by
      rcases m3 b z with z | z
      · rcases m2 b z with z | z
        · exact ap b (List.mem_append_right _ (List.mem_append_right _ hb)) z
        · exact n1'.2.2 b z b (List.mem_append_right _ hb) rfl
      · exact n2'.2.2 b z b hb rfl)
    exact ⟨v, w, x, rfl, ok.nx _ n1 _ H1 G1 L4 S4 e1⟩
/-! a list that a slot owns is changed -/
theorem Sst.put {W : Wd} {H0 G0 H G : Hp} {n : Int} {D : DSt} {σ : L2.St} {L M : List Addr} {l : List Dat} {i : Nat} (h0 : Ns W H0) (S : Sst W H0 G0 D n σ H G L) (e : D[i]? = some (some (.own l))) (nd : M.Nodup) (fr : ∀ b ∈ M, H0 b = none ∧ G b = none) (dis : ∀ b ∈ M, b ∉ L) (lst : ∀ b ∈ M, ∃ xs, H b = some (.lst xs)) :
    ∃ a xs N, σ[i]? = some (some (.ref a)) ∧ H a = some (.lst xs) ∧ Ows H G W l xs N ∧ N.Nodup ∧ (∀ b ∈ N, b ∈ L ∧ b ≠ a) ∧ a ∉ M ∧ G a = none ∧ (∀ l' xs' N', Ows H G W l' xs' N' → N'.Nodup → (∀ b ∈ N', b ∈ N ∨ b ∈ M) → ∃ L', Sst W H0 G0 (D.set i (some (.own l'))) n σ (upd H a (.lst xs')) G L') := by
  obtain ⟨a, xs, L1, N, L2, h1, h2, h3, h4, h5⟩ := S.sl.put e
  have ndL := S.nd
  rw [h4] at ndL
  have nd1 := List.nodup_append.mp ndL
  have nd2 := List.nodup_append.mp nd1.2.1
  have ndA := List.nodup_cons.mp nd2.1
  have aL : a ∈ L := by rw [h4]; exact List.mem_append_right _ (List.mem_append_left _ (List.mem_cons_self ..))
  have aM : a ∉ M := fun z => dis a z aL
  refine ⟨a, xs, N, h1, h2, h3, ndA.2, fun b hb => ⟨by rw [h4]; exact List.mem_append_right _ (List.mem_append_left _ (List.mem_cons_of_mem _ hb)), fun z => ndA.1 (z ▸ hb)⟩, aM, (S.fr a aL).2, fun l' xs' N' o nd' sub => ?_⟩
  have aN' : a ∉ N' := fun z => by
    rcases sub a z with z | z
    · exact ndA.1 z
    · exact aM z
  have nst := h0.ne (S.fr a aL).1
  have fr0 := S.fr a aL
  refine ⟨L1 ++ ((a :: N') ++ L2), ⟨⟨fun b u eb nt ns => ?_, fun b eb => ?_, S.go.grow, S.go.new⟩, ⟨fun b u eb => ?_, fun us => ?_, fun us => tabs_keep (S.hs.tab us) fun b o e nl => by rw [upd_ne (fun z => nl _ (Option.some.inj ((z ▸ e).symm.trans h2)))]; exact e, S.hs.out, S.hs.nt⟩, h5 _ l' xs' N' upd_same (fun b hb => upd_ne fun z => ?_) (fun b hb => upd_ne fun z => ?_) ?_, ?_, fun b hb => ?_⟩⟩
  · rw [upd_ne fun z => by rw [z, fr0.1] at eb; cases eb]
    exact S.go.but b u eb nt ns
  · by_cases z : b = a
    · rw [z]
      exact fr0.1
    · rw [upd_ne z] at eb
      exact S.go.dom b eb
  · rw [upd_ne fun z => by rw [z, fr0.2] at eb; cases eb]
    exact S.hs.le _ _ eb
  · obtain ⟨st, ne, n1⟩ := S.hs.str us
    obtain ⟨m1, m2⟩ := mv_st nst us
    exact ⟨st.keep (upd_ne m1) (upd_ne m2), ne, n1⟩
  · exact nd1.2.2 b hb a (List.mem_append_left _ (List.mem_cons_self ..)) z
  · exact nd2.2.2 a (List.mem_cons_self ..) b hb z.symm
  · exact Ows.keep Same.refl _ (fun b hb ys eb => by rw [upd_ne fun z => aN' (by rw [← z]; exact hb)]; exact eb) o
  · have inN : ∀ b ∈ N', b ∈ N ∨ (b ∈ M ∧ b ∉ L) := fun b hb => (sub b hb).imp id fun z => ⟨z, dis b z⟩
    refine List.nodup_append.mpr ⟨nd1.1, List.nodup_append.mpr ⟨List.nodup_cons.mpr ⟨aN', nd'⟩, nd2.2.1, fun x hx y hy z => ?_⟩, fun x hx y hy z => ?_⟩
    · rcases List.mem_cons.mp hx with w | w
      · exact nd2.2.2 a (List.mem_cons_self ..) y hy (w ▸ z)
      · rcases inN x w with w | w
        · exact nd2.2.2 x (List.mem_cons_of_mem _ w) y hy z
        · exact w.2 (by rw [h4, z]; exact List.mem_append_right _ (List.mem_append_right _ hy))
    · rcases List.mem_append.mp hy with hy | hy
      · rcases List.mem_cons.mp hy with w | w
        · exact nd1.2.2 x hx a (List.mem_append_left _ (List.mem_cons_self ..)) (z.trans w)
        · rcases inN y w with w | w
          · exact nd1.2.2 x hx y (List.mem_append_left _ (List.mem_cons_of_mem _ w)) z
          · exact w.2 (by rw [h4, ← z]; exact List.mem_append_left _ hx)
      · exact nd1.2.2 x hx y (List.mem_append_right _ hy) z
  · rcases List.mem_append.mp hb with z | z
    · exact S.fr b (by rw [h4]; exact List.mem_append_left _ z)
    · rcases List.mem_append.mp z with z | z
      · rcases List.mem_cons.mp z with w | w
        · rw [w]
          exact fr0
        · rcases sub b w with w | w
          · exact S.fr b (by rw [h4]; exact List.mem_append_right _ (List.mem_append_left _ (List.mem_cons_of_mem _ w)))
          · exact fr b w
      · exact S.fr b (by rw [h4]; exact List.mem_append_right _ (List.mem_append_right _ z))
theorem aft_own {R : List Bool} {c : Bool} {D : DSt} {i : Nat} {l : List Dat} (e : (aftD R c D)[i]? = some (some (.own l))) : D[i]? = some (some (.own l)) := by
  unfold aftD at e
  split at e
  · exact e
  · have : ∀ (R : List Bool) (D : DSt) (i : Nat), (settD R D)[i]? = some (some (.own l)) → D[i]? = some (some (.own l)) := by
      intro R
      induction R with
      | nil => intro D i e; exact e
      | cons b R ih =>
        intro D i e
        cases D with
        | nil => exact e
        | cons x D =>
          cases i with
          | zero =>
            cases b with
            | false => exact e
            | true =>
              cases x with
              | none => exact e
              | some d =>
                have e : some (some d.sh) = some (some (.own l)) := e
                cases d <;> cases e
          | succ i => exact ih D i e
    exact this R D i e
/-- x.append(e) -/
def dApp (i : Nat) (R : List Bool) (f : DE) : DS := fun K D n => (∃ l0, D[i]? = some (some (.own l0))) ∧ f (viewD R D) n fun d n1 => ∃ l, (aftD R d.clos D)[i]? = some (some (.own l)) ∧ l.length < sizeLine ∧ K.nx ((aftD R d.clos D).set i (some (.own (l ++ [d])))) n1
theorem rs_app {K : Frag} (i : Nat) (R : List Bool) {t : TE} {f : DE} (a : RE t f) : RS (tDrop (tBM K "list" rAppend (tVar i) (tCons t tNil))) (dApp i R f) := fun W H0 G0 K E D n σ H G L h0 ok S ⟨⟨l0, el⟩, e⟩ => by
  obtain ⟨p, ys, _, _, _, hp0, hp, _⟩ := S.sl.put el
  refine ⟨_, hp0, .inl ⟨rfl, ys, SqL.of hp⟩, ?_⟩
  refine S.eval h0 R a e fun d n1 v H1 G1 L1 M S1 gx sub o nd fr ⟨l, e1, e2, e3⟩ => ?_
  obtain ⟨q, xs, N, q1, q2, q3, q4, q5, q6, q7, q8⟩ := S1.put h0 e1 nd (S.fresh fr) (S.apart sub fr) (Ow.lists _ o)
  rw [hp0] at q1
  cases q1
  obtain ⟨L2, S2⟩ := q8 (l ++ [d]) (xs ++ [v]) (N ++ M) (q3.app (Ows.one o)) (List.nodup_append.mpr ⟨q4, nd, fun x hx y hy z => S.apart sub fr y hy (z ▸ (q5 x hx).1)⟩) (fun b hb => List.mem_append.mp hb)
  exact ⟨p, xs, v, rfl, rfl, q2, by rw [q3.len]; exact e2, ok.nx _ n1 σ _ G1 L2 S2 e3⟩
/-- x.extend(e) -/
def dExt (i : Nat) (R : List Bool) (f : DE) : DS := fun K D n => (∃ l0, D[i]? = some (some (.own l0))) ∧ f (viewD R D) n fun d n1 => ∃ l m, (d = .own m ∨ d = .lst m) ∧ (aftD R d.clos D)[i]? = some (some (.own l)) ∧ l.length + m.length ≤ sizeLine ∧ K.nx ((aftD R d.clos D).set i (some (.own (l ++ m)))) n1
theorem rs_ext {K : Frag} (i : Nat) (R : List Bool) {t : TE} {f : DE} (a : RE t f) : RS (tDrop (tBM K "list" rExtend (tVar i) (tCons t tNil))) (dExt i R f) := fun W H0 G0 K E D n σ H G L h0 ok S ⟨⟨l0, el⟩, e⟩ => by
  obtain ⟨p, ys, _, _, _, hp0, hp, _⟩ := S.sl.put el
  refine ⟨_, hp0, .inl ⟨rfl, ys, SqL.of hp⟩, ?_⟩
  refine S.eval h0 R a e fun d n1 v H1 G1 L1 M S1 gx sub o nd fr ⟨l, m, ed, e1, e2, e3⟩ => ?_
  obtain ⟨b, zs, Mi, rfl, hb, om, ndi, subi⟩ : ∃ b zs Mi, v = .ref b ∧ H1 b = some (.lst zs) ∧ Ows H1 G1 W m zs Mi ∧ Mi.Nodup ∧ ∀ x ∈ Mi, x ∈ M := by
    rcases ed with rfl | rfl
    · unfold Ow at o
      obtain ⟨b, zs, Mi, rfl, hb, rfl, om⟩ := o
      exact ⟨b, zs, Mi, rfl, hb, om, (List.nodup_cons.mp nd).2, fun x hx => List.mem_cons_of_mem _ hx⟩
    · unfold Ow at o
      obtain ⟨⟨b, zs, rfl, hb, om⟩, rfl⟩ := o
      exact ⟨b, zs, [], rfl, S1.hs.le _ _ hb, Ows.of_dvs _ om, List.nodup_nil, fun x hx => hx⟩
  obtain ⟨q, xs, N, q1, q2, q3, q4, q5, q6, q7, q8⟩ := S1.put h0 e1 ndi (fun x hx => S.fresh fr x (subi x hx)) (fun x hx => S.apart sub fr x (subi x hx)) (Ows.lists _ om)
  rw [hp0] at q1
  cases q1
  obtain ⟨L2, S2⟩ := q8 (l ++ m) (xs ++ zs) (N ++ Mi) (q3.app om) (List.nodup_append.mpr ⟨q4, ndi, fun x hx y hy z => S.apart sub fr y (subi y hy) (z ▸ (q5 x hx).1)⟩) (fun b hb => List.mem_append.mp hb)
  exact ⟨p, b, xs, zs, rfl, rfl, q2, hb, by rw [q3.len, om.len]; exact e2, ok.nx _ n1 σ _ G1 L2 S2 e3⟩
theorem Ows.setv {H G : Hp} {W : Wd} {d : Dat} {v : V} {M : List Addr} (o : Ow H G W d v M) : ∀ {l : List Dat} {xs : List V} {N : List Addr} (j : Nat), Ows H G W l xs N → ∃ N' N3, (N ++ M).Perm (N' ++ N3) ∧ Ows H G W (l.set j d) (xs.set j v) N'
  | [], xs, N, j, h => by
    unfold Ows at h
    obtain ⟨rfl, rfl⟩ := h
    refine ⟨[], M, List.Perm.refl _, ?_⟩
    rw [List.set_nil, List.set_nil]
    exact Ows.nil
  | x :: l, xs, N, 0, h => by
    obtain ⟨w, r, M0, N0, rfl, rfl, h1, h2⟩ := h.split
    refine ⟨M ++ N0, M0, ?_, ?_⟩
    · have p1 : ((M0 ++ N0) ++ M).Perm (M ++ (M0 ++ N0)) := List.perm_append_comm
      refine p1.trans ?_
      rw [List.append_assoc]
      exact List.Perm.append_left M List.perm_append_comm
    · show Ows H G W (d :: l) (v :: r) _
      unfold Ows
      exact ⟨v, r, M, N0, rfl, rfl, o, h2⟩
  | x :: l, xs, N, j + 1, h => by
    obtain ⟨w, r, M0, N0, rfl, rfl, h1, h2⟩ := h.split
    obtain ⟨N', N3, p, q⟩ := h2.setv o j
    refine ⟨M0 ++ N', N3, by rw [List.append_assoc, List.append_assoc]; exact List.Perm.append_left M0 p, ?_⟩
    show Ows H G W (x :: l.set j d) (w :: r.set j v) _
    unfold Ows
    exact ⟨w, _, M0, N', rfl, rfl, h1, q⟩
/-- x[j] = e, the place a whole number -/
def dSub (i : Nat) (R : List Bool) (f g : DE) : DS := fun K D n => (∃ l0, D[i]? = some (some (.own l0))) ∧ f (viewD R D) n fun d n1 => g (viewD R (aftD R d.clos D)) n1 fun j n2 => ∃ k l m, j = .int k ∧ (aftD R d.clos D)[i]? = some (some (.own l)) ∧ ixN l.length k = some m ∧ K.nx ((aftD R d.clos D).set i (some (.own (l.set m d)))) n2
theorem rs_sub (i : Nat) (R : List Bool) {t u : TE} {f g : DE} (a : RE t f) (b : RE u g) : RS (tAsg t (gSub (tVar i) u rSetL)) (dSub i R f g) := fun W H0 G0 K E D n σ H G L h0 ok S ⟨⟨l0, el⟩, e⟩ => by
  obtain ⟨p, ys, _, _, _, hp0, hp, _⟩ := S.sl.put el
  refine S.eval h0 R a e fun d n1 v H1 G1 L1 M S1 gx sub o nd fr e1 => ⟨_, hp0, ?_⟩
  have fr0 := S.fresh fr
  have ap := S.apart sub fr
  refine S1.eval h0 R b e1 fun j n2 w H2 G2 L2 M2 S2 gx2 sub2 o2 nd2 fr2 ⟨k, l, m, ej, e2, e3, e4⟩ => ?_
  subst ej
  have S2 : Sst W H0 G0 (aftD R d.clos D) n2 σ H2 G2 L2 := S2
  unfold Ow at o2
  obtain ⟨rfl, _⟩ := o2
  have lst := Ow.lists _ o
  have oM : Ow H2 G2 W d v M := Ow.keep gx2.grow _ (fun b hb xs e => gx2.but b _ e (fun _ ps z => by cases z) (h0.ne (fr0 b hb).1)) o
  have frM : ∀ b ∈ M, H0 b = none ∧ G2 b = none := fun b hb => ⟨(fr0 b hb).1, by
    obtain ⟨xs, e⟩ := lst b hb
    exact gx2.kept b _ e (fr0 b hb).2 (ap b hb)⟩
  have apM : ∀ b ∈ M, b ∉ L2 := fun b hb z => ap b hb (sub2 b z)
  obtain ⟨q, xs, N, q1, q2, q3, q4, q5, q6, q7, q8⟩ := S2.put h0 e2 nd frM apM (Ow.lists _ oM)
  rw [hp0] at q1
  cases q1
  obtain ⟨N', N3, pm, q9⟩ := Ows.setv oM m q3
  obtain ⟨L3, S3⟩ := q8 _ _ N' q9 (List.nodup_append.mp (pm.nodup_iff.mp (List.nodup_append.mpr ⟨q4, nd, fun x hx y hy z => apM y hy (z ▸ (q5 x hx).1)⟩))).1 (perm_sub pm)
  exact ⟨p, xs, k, m, rfl, rfl, q2, by rw [q3.len]; exact e3, ok.nx _ n2 σ _ G2 L3 S3 e4⟩
/-! loops -/
/-- told from a later share -/
theorem Go.rebase {W : Wd} {H0 G0 H3 G3 H' G' : Hp} (a : Go W H0 G0 H3 G3) (b : Go W H0 G3 H' G') : Go W H0 G0 H' G' := ⟨b.but, b.dom, a.grow.trans b.grow, fun c o e => (b.new c o e).elim (a.new c o) .inr⟩
theorem Sst.rebase {W : Wd} {H0 G0 H G : Hp} {D : DSt} {n : Int} {σ : L2.St} {L : List Addr} (S : Sst W H0 G0 D n σ H G L) (a : Go W H0 G0 H G) : Sst W H0 G D n σ H G L := ⟨⟨S.go.but, S.go.dom, Same.refl, fun c o e => .inl e⟩, S.hs, S.sl, S.nd, S.fr⟩
theorem Sst.unbase {W : Wd} {H0 G0 G3 H3 H G : Hp} {D : DSt} {n : Int} {σ : L2.St} {L : List Addr} (S : Sst W H0 G3 D n σ H G L) (a : Go W H0 G0 H3 G3) : Sst W H0 G0 D n σ H G L := ⟨a.rebase S.go, S.hs, S.sl, S.nd, S.fr⟩
def dForGo (fg : DG) (fb : DS) (K : DEnds) : List Dat → DSt → Int → Prop
  | [], D, n => K.nx D n
  | d :: l, D, n => fg d D fun D' => fb { nx := dForGo fg fb K l, rt := K.rt, bk := K.nx, ct := dForGo fg fb K l } D' n
def dFor (R : List Bool) (fi : DI) (fg : DG) (fb : DS) : DS := fun K D n => fi (viewD R D) n fun l n1 => dForGo fg fb K l (settD R D) n1
theorem rs_for (R : List Bool) {wi : TI} {g : TG} {tb : TS} {fi : DI} {fg : DG} {fb : DS} (ai : RI wi fi) (ag : RGO g fg) (ab : RS tb fb) : RS (tFor wi g tb) (dFor R fi fg fb) := fun W H0 G0 K E D n σ H G L h0 ok S e =>
  S.walk h0 R ai e fun l n1 J H1 G1 L1 S1 ⟨Gp, Y, wk, hG, hY⟩ e1 => by
    refine for_it wk (fun i σ' H' => ∃ D' n' G' L', Sst W H0 G0 D' n' σ' H' G' L' ∧ Same G1 G' ∧ dForGo fg fb K (l.drop i) D' n') ?_ ?_ ?_ ?_
    · exact ⟨_, n1, G1, L1, S1, Same.refl, by rw [List.drop_zero]; exact e1⟩
    · rintro i σ' H' hi ⟨D', n', G', L', S', g', _⟩
      exact hG H' (g'.trans S'.hs.le)
    · rintro i x σ2 H2 H3 hi ⟨D2, n2, G2, L2, S2, g2, ec⟩ y
      have hi2 : i < l.length := hi
      obtain ⟨d, G3, ed, S3, g3, o3⟩ : ∃ d G3, l[i]? = some d ∧ Sst W H0 G0 D2 n2 σ2 H3 G3 L2 ∧ Same G2 G3 ∧ Dv G3 W d x := by
        rcases hY i H2 x H3 hi (g2.trans S2.hs.le) y with ⟨rfl, d, ed, od⟩ | ⟨T, ws, ds, rfl, hT, rfl, ed, od⟩
        · exact ⟨d, G2, ed, S2, Same.refl, Dv.mono g2 _ od⟩
        · have gg := Go.shared (W := W) (.tup ws) S2.hs.le hT
          refine ⟨_, _, ed, ⟨S2.go.trans gg, S2.hs.shared _ hT, S2.sl.keep gg.grow fun b hb xs e => gg.but b _ e (fun _ ps z => by cases z) (h0.ne (S2.fr b hb).1), S2.nd, fun b hb => ⟨(S2.fr b hb).1, ?_⟩⟩, gg.grow, ?_⟩
          · obtain ⟨xs, e⟩ := S2.sl.lists b hb
            exact go_gnone gg e (S2.fr b hb).2
          · unfold Dv
            exact ⟨T, ws, rfl, upd_same, Dvs.mono (g2.trans gg.grow) _ od⟩
      have el : l.drop i = d :: l.drop (i + 1) := by
        rw [List.drop_eq_getElem_cons hi2]
        congr 1
        rw [List.getElem?_eq_getElem hi2] at ed
        exact Option.some.inj ed
      rw [el] at ec
      refine S3.tgt ag (Ow.of_dv _ o3) List.nodup_nil (fun b hb => by cases hb) (fun b hb => by cases hb) ec fun D4 σ4 L4 S4 e4 => ?_
      -- the body runs over what is shared here
      have S5 := S4.rebase S3.go
      refine ab W H0 G3 { nx := dForGo fg fb K (l.drop (i + 1)), rt := K.rt, bk := K.nx, ct := dForGo fg fb K (l.drop (i + 1)) } _ D4 n2 σ4 H3 G3 L4 h0 ⟨?_, (fun d n' v H' G' L g h' o e' => ok.rt d n' v H' G' L (S3.go.rebase g) h' o e'), ?_, ?_⟩ S5 e4
      · exact fun D' n' σ' H' G' L' S' e' => ⟨D', n', G', L', S'.unbase S3.go, (g2.trans g3).trans S'.go.grow, e'⟩
      · exact fun D' n' σ' H' G' L' S' e' => ok.nx D' n' σ' H' G' L' (S'.unbase S3.go) e'
      · exact fun D' n' σ' H' G' L' S' e' => ⟨D', n', G', L', S'.unbase S3.go, (g2.trans g3).trans S'.go.grow, e'⟩
    · rintro σ' H' ⟨D', n', G', L', S', g', ec⟩
      rw [List.drop_length] at ec
      exact ok.nx D' n' σ' H' G' L' S' ec
/-- what is walked whatever is shared: a range -/
def RI0 (wi : TI) (fi : DI) : Prop := ∀ (W : Wd) (D : DSt) (σ : L2.St) (H G : Hp) (n : Int) (q : List Dat → Int → Prop) (R : It → Hp → Prop), SlD G W D σ → Hs W H G n → fi D n q → (∀ l n' J H' G', Go W H G H' G' → Hs W H' G' n' → (∀ G2, ItD J W G2 l) → q l n' → R J H') → wi σ H R
theorem ri0_rng1 {t : TA} {f : DA} (a : RA t f) : RI0 (iRng1 t) (dRng1 f) := fun W D σ H G n q R s h e k => a W D σ H G n _ _ s h e fun ds n1 vs H1 G1 L1 g1 h1 o ⟨j, ed, b, e1⟩ => by
  subst ed
  have o := o.ow
  unfold Ows Ows Ow at o
  obtain ⟨x, r, M, N, rfl, _, ⟨rfl, _⟩, rfl, _⟩ := o
  exact ⟨j, rfl, b.1, b.2, k _ n1 _ H1 G1 g1 h1 (fun _ => itd_range) e1⟩
theorem ri0_rng2 {t : TA} {f : DA} (a : RA t f) : RI0 (iRng2 t) (dRng2 f) := fun W D σ H G n q R s h e k => a W D σ H G n _ _ s h e fun ds n1 vs H1 G1 L1 g1 h1 o ⟨i, j, ed, b, e1⟩ => by
  subst ed
  have o := o.ow
  unfold Ows Ows Ows Ow at o
  obtain ⟨x, r, M, N, rfl, _, ⟨rfl, _⟩, y, r2, M2, N2, rfl, _, ⟨rfl, _⟩, rfl, _⟩ := o
  exact ⟨i, j, rfl, b, k _ n1 _ H1 G1 g1 h1 (fun _ => itd_range) e1⟩
theorem ri0_rng3 {t : TA} {f : DA} (a : RA t f) : RI0 (iRng3 t) (dRng3 f) := fun W D σ H G n q R s h e k => a W D σ H G n _ _ s h e fun ds n1 vs H1 G1 L1 g1 h1 o ⟨i, j, c, m, ed, b, e1⟩ => by
  subst ed
  have o := o.ow
  unfold Ows Ows Ows Ows Ow at o
  obtain ⟨x, r, M, N, rfl, _, ⟨rfl, _⟩, y, r2, M2, N2, rfl, _, ⟨rfl, _⟩, z, r3, M3, N3, rfl, _, ⟨rfl, _⟩, rfl, _⟩ := o
  exact ⟨i, j, c, m, rfl, b, k _ n1 _ H1 G1 g1 h1 (fun _ => itd_rangeC) e1⟩
/-- what is walked stands by itself: all slots are as they were -/
theorem Sst.walk0 {W : Wd} {H0 G0 H G : Hp} {n : Int} {D : DSt} {σ : L2.St} {L : List Addr} (h0 : Ns W H0) (S : Sst W H0 G0 D n σ H G L) (R : List Bool) {t : TI} {f : DI} (r : RI0 t f) {q : List Dat → Int → Prop} {Q : It → Hp → Prop} (e : f (viewD R D) n q)
    (k : ∀ l n' J H' G' L', Sst W H0 G0 D n' σ H' G' L' → (∀ G2, ItD J W G2 l) → q l n' → Q J H') : t σ H Q := by
  obtain ⟨Gs, _, sv, hs, gs, fin⟩ := S.core h0 R
  refine r W _ σ H Gs n q Q sv hs e fun l n' J H' G1 g h' it eq => ?_
  obtain ⟨G', L', a1, a2, a3, a4, a5, a6⟩ := fin [] n' [] H' G1 [] g h' ⟨Ows.nil, List.nodup_nil, fun b hb => by cases hb⟩
  exact k l n' J H' G' L' a1 it eq
def dForR (R : List Bool) (fi : DI) (fg : DG) (fb : DS) : DS := fun K D n => fi (viewD R D) n fun l n1 => dForGo fg fb K l D n1
theorem rs_forR (R : List Bool) {wi : TI} {g : TG} {tb : TS} {fi : DI} {fg : DG} {fb : DS} (ai : RI0 wi fi) (ag : RGO g fg) (ab : RS tb fb) : RS (tFor wi g tb) (dForR R fi fg fb) := fun W H0 G0 K E D n σ H G L h0 ok S e =>
  S.walk0 h0 R ai e fun l n1 J H1 G1 L1 S1 itd e1 => by
    obtain ⟨Gp, Y, wk, hG, hY⟩ := itd fun _ => none
    have none_le : ∀ H : Hp, Same (fun _ => none) H := fun H b o e => by cases e
    refine for_it wk (fun i σ' H' => ∃ D' n' G' L', Sst W H0 G0 D' n' σ' H' G' L' ∧ dForGo fg fb K (l.drop i) D' n') ?_ ?_ ?_ ?_
    · exact ⟨_, n1, G1, L1, S1, by rw [List.drop_zero]; exact e1⟩
    · rintro i σ' H' hi _
      exact hG H' (none_le H')
    · rintro i x σ2 H2 H3 hi ⟨D2, n2, G2, L2, S2, ec⟩ y
      have hi2 : i < l.length := hi
      obtain ⟨d, G3, ed, S3, o3⟩ : ∃ d G3, l[i]? = some d ∧ Sst W H0 G0 D2 n2 σ2 H3 G3 L2 ∧ Dv G3 W d x := by
        rcases hY i H2 x H3 hi (none_le H2) y with ⟨rfl, d, ed, od⟩ | ⟨T, ws, ds, rfl, hT, rfl, ed, od⟩
        · exact ⟨d, G2, ed, S2, Dv.mono (none_le G2) _ od⟩
        · have gg := Go.shared (W := W) (.tup ws) S2.hs.le hT
          refine ⟨_, _, ed, ⟨S2.go.trans gg, S2.hs.shared _ hT, S2.sl.keep gg.grow fun b hb xs e => gg.but b _ e (fun _ ps z => by cases z) (h0.ne (S2.fr b hb).1), S2.nd, fun b hb => ⟨(S2.fr b hb).1, ?_⟩⟩, ?_⟩
          · obtain ⟨xs, e⟩ := S2.sl.lists b hb
            exact go_gnone gg e (S2.fr b hb).2
          · unfold Dv
            exact ⟨T, ws, rfl, upd_same, Dvs.mono (none_le _) _ od⟩
      have el : l.drop i = d :: l.drop (i + 1) := by
        rw [List.drop_eq_getElem_cons hi2]
        congr 1
        rw [List.getElem?_eq_getElem hi2] at ed
        exact Option.some.inj ed
      rw [el] at ec
      refine S3.tgt ag (Ow.of_dv _ o3) List.nodup_nil (fun b hb => by cases hb) (fun b hb => by cases hb) ec fun D4 σ4 L4 S4 e4 => ?_
      refine ab W H0 G0 { nx := dForGo fg fb K (l.drop (i + 1)), rt := K.rt, bk := K.nx, ct := dForGo fg fb K (l.drop (i + 1)) } _ D4 n2 σ4 H3 G3 L4 h0 ⟨?_, ok.rt, ok.nx, ?_⟩ S4 e4
      · exact fun D' n' σ' H' G' L' S' e' => ⟨D', n', G', L', S', e'⟩
      · exact fun D' n' σ' H' G' L' S' e' => ⟨D', n', G', L', S', e'⟩
    · rintro σ' H' ⟨D', n', G', L', S', ec⟩
      rw [List.drop_length] at ec
      exact ok.nx D' n' σ' H' G' L' S' ec
def dWhGo (R : List Bool) (fc : DT) (fb : DS) (K : DEnds) : Nat → DSt → Int → Prop
  | 0, _, _ => False
  | m + 1, D, n => fc (viewD R D) n fun b n1 => if b = true then fb { nx := dWhGo R fc fb K m, rt := K.rt, bk := K.nx, ct := dWhGo R fc fb K m } D n1 else K.nx D n1
/-- some number of turns ends it -/
def dWhile (R : List Bool) (fc : DT) (fb : DS) : DS := fun K D n => ∃ m, dWhGo R fc fb K m D n
theorem rs_while (R : List Bool) {tc : TT} {tb : TS} {fc : DT} {fb : DS} (ac : RT tc fc) (ab : RS tb fb) : RS (tWhile tc tb) (dWhile R fc fb) := fun W H0 G0 K E D n σ H G L h0 ok S ⟨m, e⟩ => by
  refine ⟨fun i σ' H' => ∃ D' n' G' L', Sst W H0 G0 D' n' σ' H' G' L' ∧ dWhGo R fc fb K i D' n', ⟨m, D, n, G, L, S, e⟩, ?_⟩
  rintro i σ1 H1 ⟨D1, n1, G1, L1, S1, e1⟩
  cases i with
  | zero => exact e1.elim
  | succ i =>
    refine S1.test h0 R ac e1 fun b n2 H2 G2 L2 S2 e2 => ?_
    cases b with
    | true =>
      refine iteT ⟨fun σ' H' => ∃ D' n' G' L', Sst W H0 G0 D' n' σ' H' G' L' ∧ dWhGo R fc fb K i D' n', fun σ' H' h => ⟨i, Nat.lt_succ_self i, h⟩, ?_⟩
      refine ab W H0 G0 { nx := dWhGo R fc fb K i, rt := K.rt, bk := K.nx, ct := dWhGo R fc fb K i } _ D1 n2 σ1 H2 G2 L2 h0 ⟨?_, ok.rt, ok.nx, ?_⟩ S2 e2
      · exact fun D' n' σ' H' G' L' S' e' => ⟨D', n', G', L', S', e'⟩
      · exact fun D' n' σ' H' G' L' S' e' => ⟨D', n', G', L', S', e'⟩
    | false => exact iteF (ok.nx D1 n2 σ1 H2 G2 L2 S2 e2)
/-! a def by its body -/
def startD (N : List Str) (ds : List Dat) : DSt := ds.map some ++ List.replicate (N.length - ds.length) none
theorem start_slo {G H : Hp} {W : Wd} : ∀ {ds : List Dat} {vs : List V} (k : Nat), Dvs G W ds vs → SlO H G W (ds.map some ++ List.replicate k none) (vs.map some ++ List.replicate k none) []
  | [], vs, 0, h => by
    unfold Dvs at h
    subst h
    show SlO H G W [] [] []
    unfold SlO
    exact ⟨rfl, rfl⟩
  | [], vs, k + 1, h => by
    have ih := start_slo (H := H) k h
    unfold Dvs at h
    subst h
    show SlO H G W (none :: List.replicate k none) (none :: List.replicate k none) []
    unfold SlO
    exact ⟨_, _, rfl, ih⟩
  | d :: ds, vs, k, h => by
    unfold Dvs at h
    obtain ⟨x, r, rfl, h1, h2⟩ := h
    show SlO H G W (some d :: (ds.map some ++ List.replicate k none)) (some x :: (r.map some ++ List.replicate k none)) []
    unfold SlO
    exact ⟨x, _, [], [], rfl, rfl, Ow.of_dv _ h1, start_slo k h2⟩
/-- the ends of a def's body -/
def endD (q : Dat → Int → Prop) : DEnds := { nx := fun _ n => q .non n, rt := q }
theorem fn_data {P : Program} {w : World} {K : Frag} {mg : Str → Option Value} {base : Heap} {x qual : Str} {st : Stmt} {f : Addr} {fd : FuncData} {N ps : List Str} {k m : Nat} {g : DF} {fb : DS} (F : Fun K x qual st f fd) (S : FnScope N ps (defScope st)) (hm : ps.length = m)
    (hb : ∀ (cdv : Value) (A : Around) (outer : List Env) (s : Shared) (H : Hp) (E : XK), Room k (A.deeper (envOfC qual (defScope st) s.heap.objs.size f cdv)) → ∃ t, PSs (cxOf CX0 P w K mg base N qual (defScope st) f cdv A outer s H E).nox (defBody st) t ∧ RS t fb)
    (hg : ∀ ds n q, ds.length = m → shs ds = ds → g ds n q → fb (endD q) (startD N ds) n) : FnOk P w K mg base CX0 (k + 1) f fd ps (spD m g) := by
  refine F.ok S (fun vs H Q E h => by obtain ⟨W, G, n, ds, q, h1, h2, h3, _⟩ := h; rw [h2.len, h3, hm]) fun cdv A outer s0 H vs Q E hr hsp => ?_
  obtain ⟨W, G, n, ds, q, hs, hd, hl, e, ke⟩ := hsp
  obtain ⟨t, h1, h2⟩ := hb cdv A outer s0 H E hr
  refine ⟨t, h1, h2 W H G (endD q) _ (startD N ds) n _ H G [] hs.ns ⟨?_, ke, fun D n σ H G L S e => e.elim, fun D n σ H G L S e => e.elim⟩ ⟨Go.refl, hs, ?_, List.nodup_nil, fun b hb => by cases hb⟩ (hg ds n q hl (Dvs.shd _ hd) e)⟩
  · exact fun D n' σ H' G' L S e => ke.dv S.go S.hs (d := .non) (by unfold Dv; rfl) e
  · unfold startD L2.start
    rw [hd.len]
    exact start_slo _ hd
end DL
set_option Elab.async false
set_option linter.all false
set_option maxRecDepth 100000
set_option maxHeartbeats 4000000
/-! more rules: truth, in, index, slices stored -/
namespace DL
open PySem PySem.Spec PySem.W PyProof.Rows L2
variable [TabsOf]
theorem sl_all {X : Cx} : SlR X (rSls X.K) := sl_list.or (sl_tupA.or sl_str)
/-! truth -/
def tTruth (K : Frag) (t : TE) : TT := fun σ H Q => t σ H fun x H' => ∃ k, TruV K x H' k ∧ Q k H'
def Dat.truth : Dat → Option Bool
  | .non => some false
  | .bl b => some b
  | .int i => some (i != 0)
  | .lst l => some (!l.isEmpty)
  | .tup l => some (!l.isEmpty)
  | .own l => some (!l.isEmpty)
  | .str s => if s.length ≤ sizeLine then some ((s.length : Int) != 0) else none
  | .strm => none
  | .fn _ => none
def dTruth (f : DE) : DT := fun D n Q => f D n fun x n1 => ∃ k, x.truth = some k ∧ Q k n1
theorem truth_sh (d : Dat) : d.sh.truth = d.truth := by
  cases d <;> first | rfl | (unfold Dat.sh Dat.truth; rw [shs_map]; simp)
theorem isEmpty_dvs {G : Hp} {W : Wd} {l : List Dat} {xs : List V} (o : Dvs G W l xs) : xs.isEmpty = l.isEmpty := by
  have := o.len
  cases l <;> cases xs <;> simp_all
theorem rt_truth {K : Frag} {t : TE} {f : DE} (a : RE t f) : RT (tTruth K t) (dTruth f) := fun W D σ H G n q Q s h e k =>
  a.s (q := fun x n1 => ∃ k, x.truth = some k ∧ q k n1) s h (by simp only [truth_sh]; exact e) fun d n1 v H1 G1 g1 h1 o ⟨b, eb, e1⟩ => by
    refine ⟨b, ?_, k b n1 H1 G1 g1 h1 e1⟩
    cases d <;> simp only [Dat.truth] at eb <;> unfold Dv at o
    · cases eb; subst o; rfl
    · cases eb; subst o; rfl
    · cases eb; subst o; rfl
    · split at eb
      · cases eb; subst o; exact ⟨by assumption, rfl⟩
      · cases eb
    · cases eb
      obtain ⟨p, xs, rfl, h2, o2⟩ := o
      exact .inl ⟨xs, SqL.of (h1.le _ _ h2), by rw [isEmpty_dvs o2]⟩
    · cases eb
      obtain ⟨p, xs, rfl, h2, o2⟩ := o
      exact .inr (.inl ⟨xs, SqT.of (h1.le _ _ h2), by rw [isEmpty_dvs o2]⟩)
    · exact o.elim
    · cases eb
    · cases eb
/-! in, not in: flat things -/
def Dat.flat : Dat → Bool
  | .non => true
  | .bl _ => true
  | .int _ => true
  | .str _ => true
  | _ => false
def eqF : Dat → Dat → Bool
  | .non, .non => true
  | .bl a, .bl b => a == b
  | .bl a, .int b => (if a then 1 else 0) == b
  | .int a, .bl b => a == (if b then 1 else 0)
  | .int a, .int b => a == b
  | .str a, .str b => a == b
  | _, _ => false
def inF (x : Dat) (l : List Dat) : Bool := l.any fun y => eqF y x
def Dat.toV : Dat → V
  | .bl b => .bl b
  | .int i => .int i
  | .str s => .str s
  | _ => .non
theorem Dv.flat {G : Hp} {W : Wd} {d : Dat} {v : V} (o : Dv G W d v) (f : d.flat = true) : v = d.toV ∧ flatV v = true := by
  cases d <;> cases f <;> unfold Dv at o <;> subst o <;> exact ⟨rfl, rfl⟩
theorem eqF_V {a b : Dat} (fa : a.flat = true) (fb : b.flat = true) : eqV a.toV b.toV = eqF a b := by
  cases a <;> cases fa <;> cases b <;> cases fb <;> rfl
theorem Dvs.flats {G : Hp} {W : Wd} : ∀ {l : List Dat} {xs : List V}, Dvs G W l xs → l.all Dat.flat = true → xs = l.map Dat.toV ∧ xs.all flatV = true
  | [], xs, o, _ => by
    unfold Dvs at o
    subst o
    exact ⟨rfl, rfl⟩
  | d :: l, xs, o, f => by
    unfold Dvs at o
    rw [List.all_cons, Bool.and_eq_true] at f
    obtain ⟨x, r, rfl, h1, h2⟩ := o
    obtain ⟨e1, e2⟩ := h1.flat f.1
    obtain ⟨e3, e4⟩ := h2.flats f.2
    refine ⟨by rw [e1, e3]; rfl, ?_⟩
    rw [List.all_cons, e2, e4]
    rfl
theorem inV_F {x : Dat} (fx : x.flat = true) : ∀ {l : List Dat}, l.all Dat.flat = true → inV x.toV (l.map Dat.toV) = inF x l
  | [], _ => rfl
  | d :: l, f => by
    rw [List.all_cons, Bool.and_eq_true] at f
    have := inV_F fx f.2
    unfold inV inF at *
    rw [List.map_cons, List.any_cons, List.any_cons, this, eqF_V f.1 fx]
def dIn : Dat → Dat → (Dat → Prop) → Prop := fun x y Q => ∃ l, y.items = some l ∧ (x.flat = true ∧ l.all Dat.flat = true) ∧ Q (.bl (inF x l))
def dNin : Dat → Dat → (Dat → Prop) → Prop := fun x y Q => ∃ l, y.items = some l ∧ (x.flat = true ∧ l.all Dat.flat = true) ∧ Q (.bl (!inF x l))
theorem opd_in {K : Frag} : OpD (rIn K false) dIn := fun W H G n x y a b q Q h ha hb ⟨l, el, ⟨f1, f2⟩, e⟩ k => by
  obtain ⟨p, xs, rfl, c, o⟩ := hb.seq (K := K) h.le el
  obtain ⟨e1, e2⟩ := ha.flat f1
  obtain ⟨e3, e4⟩ := o.flats f2
  refine ⟨p, xs, rfl, ?_, e2, e4, ?_⟩
  · rcases c with ⟨_, _, sq⟩ | ⟨_, _, sq⟩
    · exact .inl sq
    · exact .inr sq
  · rw [e1, e3, inV_F f1 f2]
    exact ke_n k h (by unfold Dv; rfl) e
theorem opd_nin {K : Frag} : OpD (rIn K true) dNin := fun W H G n x y a b q Q h ha hb ⟨l, el, ⟨f1, f2⟩, e⟩ k => by
  obtain ⟨p, xs, rfl, c, o⟩ := hb.seq (K := K) h.le el
  obtain ⟨e1, e2⟩ := ha.flat f1
  obtain ⟨e3, e4⟩ := o.flats f2
  refine ⟨p, xs, rfl, ?_, e2, e4, ?_⟩
  · rcases c with ⟨_, _, sq⟩ | ⟨_, _, sq⟩
    · exact .inl sq
    · exact .inr sq
  · rw [e1, e3, inV_F f1 f2]
    exact ke_n k h (by unfold Dv; rfl) e
/-! xs.index(x): flat things, x is there -/
def dIndex (f : DE) (g : DA) : DE := fun D n Q => f D n fun x n1 => (∃ l0, x.sh = .lst l0) ∧ g D n1 fun ys n2 => ∃ l y j z, x.sh = .lst l ∧ shs ys = [y] ∧ y.flat = true ∧ l.all Dat.flat = true ∧ l[j]? = some z ∧ eqF z y = true ∧ (∀ m z', m < j → l[m]? = some z' → eqF z' y = false) ∧ Q (.int (j : Nat)) n2
theorem re_index {K : Frag} {t : TE} {f : DE} {u : TA} {g : DA} (a : RE t f) (b : RA u g) : RE (tBM K "list" (rIndex K) t u) (dIndex f g) := fun W D σ H G n q Q s h e k =>
  a.s (q := fun x n1 => (∃ l0, x = .lst l0) ∧ g D n1 fun ys n2 => ∃ l y j z, x = .lst l ∧ shs ys = [y] ∧ y.flat = true ∧ l.all Dat.flat = true ∧ l[j]? = some z ∧ eqF z y = true ∧ (∀ m z', m < j → l[m]? = some z' → eqF z' y = false) ∧ q (.int (j : Nat)) n2) s h e fun d n1 v H1 G1 g1 h1 o ⟨⟨l0, el0⟩, e1⟩ => by
    subst el0
    unfold Dv at o
    obtain ⟨p, xs, rfl, h2, o2⟩ := o
    refine ⟨.inl ⟨rfl, xs, SqL.of (h1.le _ _ h2)⟩, ?_⟩
    refine b.s (q := fun ys n2 => ∃ l y j z, Dat.lst l0 = .lst l ∧ ys = [y] ∧ y.flat = true ∧ l.all Dat.flat = true ∧ l[j]? = some z ∧ eqF z y = true ∧ (∀ m z', m < j → l[m]? = some z' → eqF z' y = false) ∧ q (.int (j : Nat)) n2) (s.mono g1.grow) h1 e1 fun ys n2 ws H2 G2 g2 h3 o3 ⟨l, y, j, z, el, ey, fy, fl, hz, hzy, hno, e2⟩ => ?_
    cases el
    subst ey
    obtain ⟨w, rfl, o4⟩ := dvs_one o3
    have o5 := Dvs.mono g2.grow _ o2
    obtain ⟨e3, e4⟩ := o4.flat fy
    obtain ⟨e5, e6⟩ := o5.flats fl
    have fz : z.flat = true := List.all_eq_true.mp fl z (List.mem_of_getElem? hz)
    refine ⟨p, xs, w, j, z.toV, rfl, rfl, SqL.of (h3.le _ _ (g2.grow _ _ h2)), e4, e6, by rw [e5, List.getElem?_map, hz]; rfl, by rw [e3, eqF_V fz fy]; exact hzy, fun m z' hm hz' => ?_, (k.go (g1.trans g2)).here h3 dv_int e2⟩
    rw [e5, List.getElem?_map] at hz'
    cases q1 : l0[m]? with
    | none => rw [q1] at hz'; cases hz'
    | some u =>
      rw [q1] at hz'
      cases hz'
      rw [e3, eqF_V (List.all_eq_true.mp fl u (List.mem_of_getElem? q1)) fy]
      exact hno m u hm q1
/-! max, min of a tuple of whole numbers -/
section
variable {prog : Program} {w : World} {A : Around} {E : Value → Shared → Prop} {s : Shared} {l : Addr}
theorem iter_intTup {xs : Array (Int × Tok)} {Q : Value → Shared → Prop} (hl : s.heap.IsTuple l (intItems xs))
    (h : ∀ s₂ : Shared, s₂ = { s with heap := s.heap.push { cls := .type "tuple_iterator", data := .fields #[.ref l, .int 0 0] } } →
      (s₂.heap.IsTupleIter s.heap.objs.size l 0 ∧ s₂.heap.IsTuple l (intItems xs)) → (∀ b ∈ [s.heap.objs.size, l], b < s₂.heap.objs.size) → l ≠ s.heap.objs.size → Q (.ref s.heap.objs.size) s₂) :
    wpAny (model prog w) A (pyIter (.ref l)) Q E s := by
  have hlt : l < s.heap.objs.size := by obtain ⟨_, e, _⟩ := hl; exact Heap.lt_size e
  have hp : (s.heap.push { cls := .type "tuple_iterator", data := .fields #[.ref l, .int 0 0] }).IsTuple l (intItems xs) := by
    obtain ⟨o, e, r⟩ := hl
    exact ⟨o, Heap.get?_push_of_some _ e, r⟩
  refine wpAny_pyIter_tuple hl (h _ rfl ⟨⟨_, Heap.get?_push_size _ rfl, rfl, rfl⟩, hp⟩ (fun b hb => ?_) (Nat.ne_of_lt hlt))
  show b < (s.heap.push _).objs.size
  rw [Heap.size_push]
  rcases List.mem_cons.mp hb with rfl | hb
  · exact Nat.lt_succ_self _
  · rcases List.mem_cons.mp hb with rfl | hb
    · exact Nat.lt_succ_of_lt hlt
    · cases hb
theorem old_keptT {h' : Heap} (hk : ∀ b o, b ∉ [s.heap.objs.size] → (s.heap.push { cls := .type "tuple_iterator", data := .fields #[.ref l, .int 0 0] }).get? b = some o → h'.get? b = some o) :
    ∀ b o, s.heap.get? b = some o → h'.get? b = some o := fun b o e => by
  refine hk b o (fun hm => ?_) (Heap.get?_push_of_some _ e)
  rcases List.mem_cons.mp hm with e1 | hm
  · exact absurd (e1 ▸ Heap.lt_size e) (Nat.lt_irrefl _)
  · cases hm
theorem max_rawT {its : List Value} {ns : List Int} {Q : Value → Shared → Prop} (hh : A.handled = none) (hl : s.heap.IsTuple l its.toArray) (hi : IntsAre its ns) (hne : 0 < ns.length)
    (h : ∀ h' tk M t', (∀ b o, s.heap.get? b = some o → h'.get? b = some o) → M ∈ ns → (∀ a, a ∈ ns → a ≤ M) → Q (.int M t') { s with heap := h', toks := tk }) : wpAny (model prog w) A (call (.builtin "max") [.ref l]) Q E s := by
  obtain ⟨xs, e⟩ := hi.allInts.items
  have hn : numsOf (intItems xs).toList = ns := by rw [← e]; exact hi.numsOf
  rw [nums_intItems] at hn
  subst hn
  rw [e] at hl
  have hsz : 0 < xs.size := by simpa using hne
  refine call_max_walk (iter_intTup hl fun s₂ e st hfp hlI => ?_)
  subst e
  refine ⟨_, _, _, _, _, _, _, rfl, Walks.tuple (A := A.in1) hh _ l hlI (intItems xs), st, hfp, by simpa [intItems] using hsz, CmpOf.ints_gt (numAt xs) (fun _ _ => intItems_at), fun v h' tk hP hk => ?_⟩
  have hv : (intItems xs)[argBest (fun i j => decide (numAt xs i > numAt xs j)) (xs.size - 1)]? = some v := by simpa [intItems] using hP
  obtain ⟨t, rfl⟩ := intItems_at hv
  obtain ⟨h1, h2⟩ := argBest_gt (numAt xs) (xs.size - 1)
  refine h h' tk _ t (old_keptT hk) ?_ fun a ha => ?_
  · rw [numAt_eq]; exact PySem.getD_mem (by rw [List.length_map, Array.length_toList]; omega)
  · obtain ⟨j, hj, rfl⟩ := mem_getD ha
    rw [List.length_map, Array.length_toList] at hj
    rw [← numAt_eq]; exact h2 j (by omega)
end
def rMaxB (K : Frag) : List V → Hp → VK → Prop := fun xs H Q => rMaxA K xs H Q ∨ ∃ (a : Addr) (ns : List Int), xs = [V.ref a] ∧ SqT K H a (ns.map V.int) ∧ 0 < ns.length ∧ ∀ m, m ∈ ns → (∀ y, y ∈ ns → y ≤ m) → Q (.int m) H
theorem cr_maxB {X : Cx} (hc : X.calm = true) : CallR X (.builtin "max") (rMaxB X.K) := (cr_maxA hc).or (by
  intro pins s σ H vs us Q I r h
  obtain ⟨a, ns, rfl, hs, hne, q⟩ := h
  obtain ⟨its, rv, hl, _⟩ := I.tuple hs
  rw [Vals.ref1 r]
  exact max_rawT (I.ok.hd hc) (show s.heap.IsTuple a its.toArray from hl) rv.ints hne fun h' tk m t' hk h1 h2 => ⟨.int _, H, I.kept hk, ⟨_, rfl⟩, q m h1 h2⟩)
def dMaxB : List Dat → (Dat → Prop) → Prop
  | [.int i, .int j], Q => Q (.int (if j > i then j else i))
  | [.lst l], Q => ∃ ns : List Int, l = ns.map Dat.int ∧ 0 < ns.length ∧ ∀ m, m ∈ ns → (∀ y, y ∈ ns → y ≤ m) → Q (.int m)
  | [.tup l], Q => ∃ ns : List Int, l = ns.map Dat.int ∧ 0 < ns.length ∧ ∀ m, m ∈ ns → (∀ y, y ∈ ns → y ≤ m) → Q (.int m)
  | _, _ => False
theorem cbd_maxB {K : Frag} : CbD (rMaxB K) dMaxB := fun W H G n vs ds q Q h o e k => by
  unfold dMaxB at e
  split at e
  · exact .inl (cbd_max (K := K) W H G n vs _ q Q h o e k)
  · exact .inl (cbd_max (K := K) W H G n vs _ q Q h o e k)
  · obtain ⟨ns, rfl, e0, e⟩ := e
    obtain ⟨v, rfl, o1⟩ := dvs_one o
    unfold Dv at o1
    obtain ⟨p, xs, rfl, h1, o2⟩ := o1
    rw [dvs_ints ns o2] at h1
    exact .inr ⟨p, ns, rfl, SqT.of (h.le _ _ h1), e0, fun m hm hy => ke_n k h dv_int (e m hm hy)⟩
  · exact e.elim
/-! x[a:b] = e -/
def gSubSl (to ta tb : TE) : TG := fun v σ H Q => to σ H fun o H1 => ta σ H1 fun a H2 => ∃ i : Int, a = .int i ∧ tb σ H2 fun b H3 => ∃ (j : Int) (l p : Addr) (xs ys : List V), b = .int j ∧ o = .ref l ∧ v = .ref p ∧ H3 l = some (.lst xs) ∧ H3 p = some (.lst ys) ∧ l ≠ p ∧ (0 ≤ i ∧ i ≤ j ∧ j ≤ xs.length ∧ xs.length + ys.length ≤ sizeLine) ∧ Q σ (upd H3 l (.lst (xs.take i.toNat ++ ys ++ xs.drop j.toNat)))
theorem pg_subSl {X : Cx} {o lo hi : Expr} {to ta tb : TE} {p2 pos : Pos} (ho : PE X o to) (hl : PE X lo ta) (hu : PE X hi tb)
    (ha : ∀ v, assign (.Subscript o (.Slice (some lo) (some hi) none p2) pos) X.env v = (do
      let ov ← holding [v] (eval o X.env)
      let iv ← holding [v, ov] (eval (.Slice (some lo) (some hi) none p2) X.env)
      standAt pos
      holding [v, ov, iv] (setItem ov iv v)
      release [iv, v, ov] []) := by intro _; rfl) : PG X (.Subscript o (.Slice (some lo) (some hi) none p2) pos) (gSubSl to ta tb) := by
  refine ⟨fun pins s σ H v u Q I r h => ?_⟩
  rw [ha]
  refine wpAny_bind (wpAny_holding (thn (ho.run pins s σ H _ I h) fun ov s1 ⟨x, H1, I1, r1, q1⟩ => ?_))
  refine wpAny_bind (wpAny_holding (wpAny_Slice ?_))
  rw [evalPart_some]
  refine thn (hl.run pins s1 σ H1 _ I1 q1) fun va s2 ⟨a, H2, I2, r2, i, ea, q2⟩ => ?_
  rw [evalPart_some]
  refine thn (hu.run pins s2 σ H2 _ I2 q2) fun vb s3 ⟨b, H3, I3, r3, j, l, p, xs, ys, eb, ex, ev, h1, h2, ne, ⟨b1, b2, b3, b4⟩, q3⟩ => ?_
  rw [evalPart_none]
  refine wpAny_pure ?_
  subst ea eb ex ev
  have I4 : Inv X pins σ H3 { s3 with heap := s3.heap.push { cls := .type "slice", data := .fields #[va, vb, .none] } } := I3.kept (t' := s3.toks) fun b ob q => Heap.get?_push_of_some _ q
  cases r1
  cases r
  refine wpAny_bind (wpAny_standAt (wpAny_bind (wpAny_holding ?_)))
  exact set_slice I4 h1 h2 ne (Heap.IsSliceOf.new ..) r2 r3 b1 b2 b3 b4 fun s' I' => wpAny_release ⟨σ, _, I', q3⟩
def dSubSl (i : Nat) (R : List Bool) (f g h : DE) : DS := fun K D n => (∃ l0, D[i]? = some (some (.own l0))) ∧ f (viewD R D) n fun d n1 => g (viewD R (aftD R d.clos D)) n1 fun a n2 => ∃ x, a = .int x ∧ h (viewD R (aftD R d.clos D)) n2 fun b n3 => ∃ y l m, b = .int y ∧ (d = .own m ∨ d = .lst m) ∧ (aftD R d.clos D)[i]? = some (some (.own l)) ∧
  (0 ≤ x ∧ x ≤ y ∧ y ≤ l.length ∧ l.length + m.length ≤ sizeLine) ∧ K.nx ((aftD R d.clos D).set i (some (.own (l.take x.toNat ++ m ++ l.drop y.toNat)))) n3
theorem Ows.takes {H G : Hp} {W : Wd} : ∀ {l : List Dat} {xs : List V} {N : List Addr} (k : Nat), Ows H G W l xs N → ∃ N1 N2, N = N1 ++ N2 ∧ Ows H G W (l.take k) (xs.take k) N1 ∧ Ows H G W (l.drop k) (xs.drop k) N2
  | l, xs, N, 0, h => ⟨[], N, rfl, by rw [List.take_zero, List.take_zero]; exact Ows.nil, h⟩
  | [], xs, N, k + 1, h => by
    unfold Ows at h
    obtain ⟨rfl, rfl⟩ := h
    exact ⟨[], [], rfl, Ows.nil, Ows.nil⟩
  | d :: l, xs, N, k + 1, h => by
    obtain ⟨x, r, M, N0, rfl, rfl, h1, h2⟩ := h.split
    obtain ⟨N1, N2, rfl, h3, h4⟩ := h2.takes k
    refine ⟨M ++ N1, N2, by rw [List.append_assoc], ?_, h4⟩
    rw [List.take_succ_cons, List.take_succ_cons]
    unfold Ows
    exact ⟨x, _, M, N1, rfl, rfl, h1, h3⟩
theorem rs_subSl (i : Nat) (R : List Bool) {t u w : TE} {f g h : DE} (a : RE t f) (b : RE u g) (c : RE w h) : RS (tAsg t (gSubSl (tVar i) u w)) (dSubSl i R f g h) := fun W H0 G0 K E D n σ H G L h0 ok S ⟨⟨l0, el⟩, e⟩ => by
  obtain ⟨p, ys, _, _, _, hp0, hp, _⟩ := S.sl.put el
  refine S.eval h0 R a e fun d n1 v H1 G1 L1 M S1 gx sub o nd fr e1 => ⟨_, hp0, ?_⟩
  have fr0 := S.fresh fr
  have ap := S.apart sub fr
  refine S1.eval h0 R b e1 fun j n2 w H2 G2 L2 M2 S2 gx2 sub2 o2 nd2 fr2 ⟨x, ej, e2⟩ => ?_
  subst ej
  have S2 : Sst W H0 G0 (aftD R d.clos D) n2 σ H2 G2 L2 := S2
  unfold Ow at o2
  obtain ⟨rfl, _⟩ := o2
  refine ⟨x, rfl, S2.eval h0 R c e2 fun j n3 w H3 G3 L3 M3 S3 gx3 sub3 o3 nd3 fr3 ⟨y, l, m, ej, ed, e3, e4, e5⟩ => ?_⟩
  subst ej
  have S3 : Sst W H0 G0 (aftD R d.clos D) n3 σ H3 G3 L3 := S3
  unfold Ow at o3
  obtain ⟨rfl, _⟩ := o3
  have lst := Ow.lists _ o
  have oM2 : Ow H2 G2 W d v M := Ow.keep gx2.grow _ (fun b hb xs e => gx2.but b _ e (fun _ ps z => by cases z) (h0.ne (fr0 b hb).1)) o
  have lst2 := Ow.lists _ oM2
  have oM : Ow H3 G3 W d v M := Ow.keep gx3.grow _ (fun b hb xs e => gx3.but b _ e (fun _ ps z => by cases z) (h0.ne (fr0 b hb).1)) oM2
  have frM2 : ∀ b ∈ M, G2 b = none := fun b hb => by
    obtain ⟨xs, e⟩ := lst b hb
    exact gx2.kept b _ e (fr0 b hb).2 (ap b hb)
  have apM2 : ∀ b ∈ M, b ∉ L2 := fun b hb z => ap b hb (sub2 b z)
  have frM : ∀ b ∈ M, H0 b = none ∧ G3 b = none := fun b hb => ⟨(fr0 b hb).1, by
    obtain ⟨xs, e⟩ := lst2 b hb
    exact gx3.kept b _ e (frM2 b hb) (apM2 b hb)⟩
  have apM : ∀ b ∈ M, b ∉ L3 := fun b hb z => apM2 b hb (sub3 b z)
  obtain ⟨b, zs, Mi, rfl, hb, om, ndi, subi, bM⟩ : ∃ b zs Mi, v = .ref b ∧ H3 b = some (.lst zs) ∧ Ows H3 G3 W m zs Mi ∧ Mi.Nodup ∧ (∀ x ∈ Mi, x ∈ M) ∧ (b ∈ M ∨ G3 b ≠ none) := by
    rcases ed with rfl | rfl
    · unfold Ow at oM
      obtain ⟨b, zs, Mi, rfl, hb, rfl, om⟩ := oM
      exact ⟨b, zs, Mi, rfl, hb, om, (List.nodup_cons.mp nd).2, (fun x hx => List.mem_cons_of_mem _ hx), .inl (List.mem_cons_self ..)⟩
    · unfold Ow at oM
      obtain ⟨⟨b, zs, rfl, hb, om⟩, rfl⟩ := oM
      exact ⟨b, zs, [], rfl, S3.hs.le _ _ hb, Ows.of_dvs _ om, List.nodup_nil, (fun x hx => hx), .inr (by rw [hb]; simp)⟩
  obtain ⟨q, xs, N, q1, q2, q3, q4, q5, q6, q7, q8⟩ := S3.put h0 e3 nd frM apM (Ow.lists _ oM)
  rw [hp0] at q1
  cases q1
  obtain ⟨N1, N2, eN, t1, d1⟩ := q3.takes x.toNat
  obtain ⟨N3, N4, eN2, t2, d2⟩ := q3.takes y.toNat
  have xy : x.toNat ≤ y.toNat := by omega
  -- behind y: a later part of what is behind x
  obtain ⟨N5, N6, eN3, t3, d3⟩ := d1.takes (y.toNat - x.toNat)
  have dd : (l.drop x.toNat).drop (y.toNat - x.toNat) = l.drop y.toNat := by rw [List.drop_drop]; congr 1; omega
  have dx : (xs.drop x.toNat).drop (y.toNat - x.toNat) = xs.drop y.toNat := by rw [List.drop_drop]; congr 1; omega
  rw [dd, dx] at d3
  have all := (t1.app om).app d3
  have nN : (N1 ++ (N5 ++ N6)).Nodup := by rw [← eN3, ← eN]; exact q4
  have inN : ∀ b ∈ N1 ++ (N5 ++ N6), b ∈ N := fun b hb => by rw [eN, eN3]; exact hb
  have n1 := List.nodup_append.mp nN
  have n2 := List.nodup_append.mp n1.2.1
  obtain ⟨L4, S4⟩ := q8 _ _ _ all (by
    refine List.nodup_append.mpr ⟨List.nodup_append.mpr ⟨n1.1, ndi, fun a ha b hb z => ?_⟩, n2.2.1, fun a ha b hb z => ?_⟩
    · exact apM b (subi b hb) (z ▸ (q5 a (inN a (List.mem_append_left _ ha))).1)
    · rcases List.mem_append.mp ha with ha | ha
      · exact n1.2.2 a ha b (List.mem_append_right _ hb) z
      · exact apM a (subi a ha) (z ▸ (q5 b (inN b (List.mem_append_right _ (List.mem_append_right _ hb)))).1)) (fun b hb => by
    rcases List.mem_append.mp hb with hb | hb
    · rcases List.mem_append.mp hb with hb | hb
      · exact .inl (inN b (List.mem_append_left _ hb))
      · exact .inr (subi b hb)
    · exact .inl (inN b (List.mem_append_right _ (List.mem_append_right _ hb))))
  refine ⟨y, p, b, xs, zs, rfl, rfl, rfl, q2, hb, fun z => ?_, by rw [q3.len, om.len]; exact e4, ok.nx _ n3 σ _ G3 L4 S4 e5⟩
  rcases bM with w | w
  · exact q6 (z ▸ w)
  · exact w (z ▸ q7)
end DL
set_option Elab.async false
set_option linter.all false
set_option maxRecDepth 100000
set_option maxHeartbeats 4000000
/-! the stream, its draws, one of some things, same: as in k00's proof -/
namespace N4
open DL (StrAt same_new Df pe_df)
open PySem PySem.Spec PyProof.Rows L2
def top (i : Nat) : Stmt := PySem.Challenge.pw_neverhalf_k04_whole_rings_and_which_runs.main.body.getD i (.Pass ⟨0, 0, 0, 0⟩)
abbrev sStream : Stmt := top 45
abbrev sDraw : Stmt := top 46
abbrev sPick : Stmt := top 47
/-- all but what stands at st and q is as it was -/
def But (st q : Addr) (H H' : Hp) : Prop := ∀ b o, H b = some o → b ≠ st → b ≠ q → H' b = some o
theorem But.refl {st q : Addr} {H : Hp} : But st q H H := fun _ _ e _ _ => e
theorem But.trans {st q : Addr} {H H1 H2 : Hp} (a : But st q H H1) (b : But st q H1 H2) : But st q H H2 := fun c o e n1 n2 => b c o (a c o e n1 n2) n1 n2
theorem But.same {st q : Addr} {H H1 : Hp} (a : Same H H1) : But st q H H1 := fun c o e _ _ => a c o e
theorem But.new {st q : Addr} {H : Hp} {p : Addr} {o : HO} (h : H p = none) : But st q H (upd H p o) := But.same (same_new h o)
theorem But.st {st q : Addr} {H : Hp} {o : HO} : But st q H (upd H st o) := fun b u e n1 _ => by rw [upd_ne n1]; exact e
theorem But.q {st q : Addr} {H : Hp} {o : HO} : But st q H (upd H q o) := fun b u e _ n2 => by rw [upd_ne n2]; exact e
def spStream (K : PySem.W.Frag) : Sp := fun vs H Q _ => ∃ (a : Addr) (ns : List Int), vs = [.ref a] ∧ SqL K H a (ns.map V.int) ∧ ns.length ≤ 63 ∧
  ∀ (st q : Addr) (H' : Hp), H st = none → H q = none → st ≠ q → Same H H' → StrAt H' st q 0 → Q (.ref st) H'
def spDraw : Sp := fun vs H Q _ => ∃ (st q : Addr) (n m : Int), vs = [.ref st, .int m] ∧ StrAt H st q n ∧ st ≠ q ∧ 0 < m ∧ m < 1073741824 ∧ 0 ≤ n ∧ n < 1000000 ∧
  ∀ (d : Int) (H' : Hp), 0 ≤ d → d < m → StrAt H' st q (n + 1) → But st q H H' → Q (.int d) H'
section
variable {P : Program} {w : World} {K : PySem.W.Frag} {mg : Str → Option Value} {base : Heap}
theorem scStream : FnScope ["script"] ["script"] (defScope sStream) := ⟨rfl, rfl, rfl, by decide +kernel, rfl, by decide +kernel, by decide +kernel⟩
theorem ok_stream {f : Addr} {fd : FuncData} (F : Fun K "_law_stream" "_law_stream" sStream f fd) (ml : mg "list" = none) : FnOk P w K mg base CX0 1 f fd ["script"] (spStream K) := by
  refine F.ok scStream (fun vs H Q E h => ?_) (fun cdv A outer s H vs Q E hr h => ?_)
  · obtain ⟨a, ns, rfl, _⟩ := h
    rfl
  obtain ⟨a, ns, rfl, hS, h63, k⟩ := h
  refine ⟨_, pss_one (ps_ret (pe_lst (pa_cons (pe_callTy call_list_of (by rfl) ml (by decide +kernel) (pa_cons (pv 0) pa_nil)) (pa_cons pe_int (pa_cons pe_int (pa_cons pe_int pa_nil)))))), ?_⟩
  refine ⟨_, rfl, a, _, rfl, .inl hS, fun q hq => ?_⟩
  refine ⟨(by show 4 ≤ sizeLine; decide), fun st hst => ?_⟩
  have nq : st ≠ q := fun e => by
    rw [e, upd_same] at hst
    cases hst
  have h0 : H st = none := by
    rw [upd_ne nq] at hst
    exact hst
  refine k st q _ h0 hq nq ((same_new hq _).trans (same_new hst _)) ⟨ns, 0, 17, upd_same, ?_, by decide, by decide, by decide⟩
  rw [upd_ne nq.symm, upd_same]
theorem scDraw : FnScope ["stream", "many", "cell", "digit", "mixed"] ["stream", "many"] (defScope sDraw) := ⟨rfl, rfl, rfl, by decide +kernel, rfl, by decide +kernel, by decide +kernel⟩
end
end N4
namespace N4
open DL (StrAt same_new Df pe_df)
open PySem PySem.Spec PyProof.Rows L2
theorem dp_ints {K : PySem.W.Frag} {H : Hp} : ∀ ns : List Int, DpAll K H (ns.map V.int) (ns.map PyData.int)
  | [] => .nil
  | n :: r => .cons (.int n) (dp_ints r)
theorem eqv_ints_nil : ∀ ns : List Int, PyData.eqv (.list (ns.map PyData.int)) (.list []) = ns.isEmpty
  | [] => by simp [PyData.eqv, PyData.eqvAll]
  | _ :: _ => by simp [PyData.eqv, PyData.eqvAll]
theorem pop0 {xs : List V} {x : V} : (x :: xs).eraseIdx 0 = xs := rfl
theorem seq0 (z : V) (xs : List V) : seqIndex? 0 (z :: xs).length = some 0 := by simp [seqIndex?]
theorem pow_bound {x m : Int} (h0 : 0 ≤ x) (h : x < m) (hm : m ≤ 18446744073709551616) : x.natAbs < 2 ^ 64 := by
  have e : (2 : Nat) ^ 64 = 18446744073709551616 := by decide
  rw [e]; omega
/-- behind the loop: the digit, or the mixed number -/
def tTailDraw (K : PySem.W.Frag) : TS :=
  tSeq (tIfS (tTest (tOp (rI0 fun i j => V.bl (decide (j < i))) (tOp (rIxL K) (tVar 0) (tC (V.int 1))) (tC (V.int 0))))
      (tSeq (tAsg (tOp (rI (fun _ j => 0 < j) fun i j => V.int (i % j)) (tCB (fun xs H Q => (∃ i, xs = [V.int i] ∧ Q (V.int i) H) ∨ ∃ k, xs = [V.bl k] ∧ Q (V.int (if k = true then 1 else 0)) H) (tCons (tOp (rIxL K) (tVar 0) (tC (V.int 1))) tNil)) (tVar 1)) (gName 3))
      (tSeq (tAsg (tOp (rI CDiv fun i j => V.int (i / j)) (tOp (rIxL K) (tVar 0) (tC (V.int 1))) (tVar 1)) (gSub (tVar 0) (tC (V.int 1)) rSetL)) (tRet (tVar 3)))) tNext)
    (tSeq (tAsg (tOp (rI (fun _ j => 0 < j) fun i j => V.int (i % j)) (tCB (fun xs H Q => (∃ i, xs = [V.int i] ∧ Q (V.int i) H) ∨ ∃ k, xs = [V.bl k] ∧ Q (V.int (if k = true then 1 else 0)) H)
        (tCons (tOp (rI CPow fun i j => V.int (i ^ j.toNat)) (tOp (rI0 fun i j => V.int (i + j)) (tOp (rI0 fun i j => V.int (i + j)) (tOp (rIxL K) (tVar 0) (tC (V.int 3))) (tOp (rI CMul fun i j => V.int (i * j)) (tC (V.int 7919)) (tOp (rIxL K) (tVar 0) (tC (V.int 2))))) (tC (V.int 104729))) (tC (V.int 5))) tNil)) (tC (V.int 2147483629))) (gName 4))
      (tRet (tOp (rI (fun _ j => 0 < j) fun i j => V.int (i % j)) (tOp (rI (fun _ j => 0 < j) fun i j => V.int (i % j)) (tCB (fun xs H Q => (∃ i, xs = [V.int i] ∧ Q (V.int i) H) ∨ ∃ k, xs = [V.bl k] ∧ Q (V.int (if k = true then 1 else 0)) H)
        (tCons (tOp (rI CPow fun i j => V.int (i ^ j.toNat)) (tOp (rI0 fun i j => V.int (i + j)) (tOp (rI0 fun i j => V.int (i + j)) (tOp (rI CMul fun i j => V.int (i * j)) (tVar 4) (tC (V.int 48271))) (tOp (rI CMul fun i j => V.int (i * j)) (tC (V.int 30011)) (tOp (rIxL K) (tVar 0) (tC (V.int 2))))) (tC (V.int 29))) (tC (V.int 3))) tNil)) (tC (V.int 1000000007))) (tVar 1))))
theorem tail_draw {K : PySem.W.Frag} {H H1 : Hp} {st q : Addr} {n m a1 c1 : Int} {ns1 : List Int} {cell : Option V} {Q : VK} {nx : L2.St → Hp → Prop} (hm : 0 < m) (hm2 : m < 1073741824) (hn0 : 0 ≤ n) (hn1 : n < 1000000) (ha1 : 0 ≤ a1) (hc1 : 0 ≤ c1) (hc12 : c1 < 2147483647)
    (f1 : H1 st = some (.lst [.ref q, .int a1, .int (n + 1), .int c1])) (f2 : H1 q = some (.lst (ns1.map V.int))) (B1 : But st q H H1) (nsq : st ≠ q)
    (k : ∀ (d : Int) (H' : Hp), 0 ≤ d → d < m → StrAt H' st q (n + 1) → But st q H H' → Q (.int d) H') :
    tTailDraw K { nx := nx, rt := Q } [some (.ref st), some (.int m), cell, none, none] H1 := by
  refine ⟨_, rfl, st, _, 1, .int a1, rfl, rfl, SqL.of f1, rfl, _, _, rfl, rfl, _, rfl, ?_⟩
  refine ite2 (fun h0 => ?_) (fun h0 => ?_)
  · have h0' : 0 < a1 := of_decide_eq_true h0
    refine ⟨_, rfl, st, _, 1, .int a1, rfl, rfl, SqL.of f1, rfl, .inl ⟨_, rfl, _, rfl, _, _, rfl, rfl, hm, ?_⟩⟩
    refine ⟨_, rfl, st, _, 1, .int a1, rfl, rfl, SqL.of f1, rfl, _, rfl, _, _, rfl, rfl, ⟨hm, hm2⟩, _, rfl, st, _, 1, 1, rfl, rfl, f1, rfl, ?_⟩
    refine ⟨_, rfl, k _ _ (Int.emod_nonneg _ (by omega)) (Int.emod_lt_of_pos _ hm) ⟨ns1, a1 / m, c1, upd_same, by rw [upd_ne nsq.symm]; exact f2, Int.ediv_nonneg ha1 (by omega), hc1, hc12⟩ (B1.trans But.st)⟩
  · refine ⟨_, rfl, st, _, 3, .int c1, rfl, rfl, SqL.of f1, rfl, _, rfl, st, _, 2, .int (n + 1), rfl, rfl, SqL.of f1, rfl, _, _, rfl, rfl, .inl ⟨by decide, by decide⟩, _, _, rfl, rfl, _, _, rfl, rfl, _, _, rfl, rfl, ⟨by decide, by decide, pow_bound (m := 18446744073709551616) (by omega) (by omega) (by omega)⟩, .inl ⟨_, rfl, _, _, rfl, rfl, (by show (0 : Int) < 2147483629; decide), ?_⟩⟩
    have z0 : 0 ≤ (c1 + 7919 * (n + 1) + 104729) ^ (5 : Int).toNat % 2147483629 := Int.emod_nonneg _ (by decide)
    have z1 : (c1 + 7919 * (n + 1) + 104729) ^ (5 : Int).toNat % 2147483629 < 2147483629 := Int.emod_lt_of_pos _ (by decide)
    generalize (c1 + 7919 * (n + 1) + 104729) ^ (5 : Int).toNat % 2147483629 = mx at z0 z1 ⊢
    refine ⟨_, rfl, _, _, rfl, rfl, .inr ⟨by decide, by decide⟩, _, rfl, st, _, 2, .int (n + 1), rfl, rfl, SqL.of f1, rfl, _, _, rfl, rfl, .inl ⟨by decide, by decide⟩, _, _, rfl, rfl, _, _, rfl, rfl, _, _, rfl, rfl, ⟨by decide, by decide, pow_bound (m := 18446744073709551616) (by omega) (by omega) (by omega)⟩, .inl ⟨_, rfl, _, _, rfl, rfl, (by show (0 : Int) < 1000000007; decide), _, rfl, _, _, rfl, rfl, hm, ?_⟩⟩
    exact k _ _ (Int.emod_nonneg _ (by omega)) (Int.emod_lt_of_pos _ hm) ⟨ns1, a1, c1, f1, f2, ha1, hc1, hc12⟩ B1
section
variable {P : Program} {w : World} {K : PySem.W.Frag} {mg : Str → Option Value} {base : Heap}
theorem ok_draw {f : Addr} {fd : FuncData} (F : Fun K "_law_draw" "_law_draw" sDraw f fd) (ma : mg "abs" = none) (mi : mg "int" = none) : FnOk P w K mg base CX0 1 f fd ["stream", "many"] spDraw := by
  refine F.ok scDraw (fun vs H Q E h => ?_) (fun cdv A outer s H vs Q E hr h => ?_)
  · obtain ⟨st, q, n, m, rfl, _⟩ := h
    rfl
  obtain ⟨st, q, n, m, rfl, S, nsq, hm, hm2, hn0, hn1, k⟩ := h
  refine ⟨_, pss_cons (ps_asg (pe_op op_add (pe_ix ix_list (pv 0) pe_int (fun _ _ => rfl)) pe_int) (pg_sub (pv 0) pe_int set_list))
   (pss_cons (ps_while PassesOwn.never (PW.pt (pw_and (pt_cmpR op_eq (pe_ix ix_list (pv 0) pe_int (fun _ _ => rfl)) pe_int (nomark _)) (pw_and1 (pt_cmpR (op_neD hr.units) (pe_ix ix_list (pv 0) pe_int (fun _ _ => rfl)) (pe_lst pa_nil) (nomark _)))))
      (pss_cons (ps_set (i := 2) scDraw.nd rfl (Or.inl rfl) (pe_callB call_abs (by rfl) ma (by decide +kernel) (pa_cons (pe_bm PySem.F.plainAttrs_list PySem.F.slot_list_pop PySem.F.type_list_pop mt_popAt (pe_ix ix_list (pv 0) pe_int (fun _ _ => rfl)) (pa_cons pe_int pa_nil)) pa_nil)))
      (pss_cons (ps_asg (pe_op op_mod (pe_callTy call_int1 (by rfl) mi (by decide +kernel) (pa_cons (pe_op op_add (pe_op op_add (pe_op op_mul (pe_ix ix_list (pv 0) pe_int (fun _ _ => rfl)) pe_int) (pv 2)) pe_int) pa_nil)) pe_int) (pg_sub (pv 0) pe_int set_list))
      (pss_one (ps_asg (pe_ifExp (pt_cmpR op_ge (pv 2) (pe_op op_pow pe_int pe_int) (nomark _)) (pv 2) pe_int) (pg_sub (pv 0) pe_int set_list))))))
   (pss_cons (ps_if (pt_cmpR op_gt (pe_ix ix_list (pv 0) pe_int (fun _ _ => rfl)) pe_int (nomark _))
      (pss_cons (ps_set (i := 3) scDraw.nd rfl (Or.inl rfl) (pe_op op_mod (pe_callTy call_int1 (by rfl) mi (by decide +kernel) (pa_cons (pe_ix ix_list (pv 0) pe_int (fun _ _ => rfl)) pa_nil)) (pv 1)))
      (pss_cons (ps_asg (pe_op op_fdiv (pe_ix ix_list (pv 0) pe_int (fun _ _ => rfl)) (pv 1)) (pg_sub (pv 0) pe_int set_list))
      (pss_one (ps_ret (pv 3))))) pss_nil)
   (pss_cons (ps_set (i := 4) scDraw.nd rfl (Or.inl rfl) (pe_op op_mod (pe_callTy call_int1 (by rfl) mi (by decide +kernel) (pa_cons (pe_op op_pow (pe_op op_add (pe_op op_add (pe_ix ix_list (pv 0) pe_int (fun _ _ => rfl)) (pe_op op_mul pe_int (pe_ix ix_list (pv 0) pe_int (fun _ _ => rfl)))) pe_int) pe_int) pa_nil)) pe_int))
   (pss_one (ps_ret (pe_op op_mod (pe_op op_mod (pe_callTy call_int1 (by rfl) mi (by decide +kernel) (pa_cons (pe_op op_pow (pe_op op_add (pe_op op_add (pe_op op_mul (pv 4) pe_int) (pe_op op_mul pe_int (pe_ix ix_list (pv 0) pe_int (fun _ _ => rfl)))) pe_int) pe_int) pa_nil)) pe_int) (pv 1))))))), ?_⟩
  obtain ⟨ns, a, c, e1, e2, ha, hc, hc2⟩ := S.ex
  -- stream[2] = stream[2] + 1
  refine ⟨_, rfl, st, _, 2, .int n, rfl, rfl, SqL.of e1, rfl, _, _, rfl, rfl, _, rfl, st, _, 2, 2, rfl, rfl, e1, rfl, ?_⟩
  have nqs : q ≠ st := Ne.symm nsq
  -- the loop: m, how many cells are left
  refine ⟨fun i σ H' => ∃ (cell : Option V) (ns : List Int) (a c : Int), σ = [some (.ref st), some (.int m), cell, none, none] ∧ H' st = some (.lst [.ref q, .int a, .int (n + 1), .int c]) ∧ H' q = some (.lst (ns.map V.int)) ∧ 0 ≤ a ∧ 0 ≤ c ∧ c < 2147483647 ∧ But st q H H' ∧ i = ns.length,
    ⟨_, none, ns, a, c, rfl, upd_same, by rw [upd_ne nqs]; exact e2, ha, hc, hc2, But.st, rfl⟩, ?_⟩
  rintro i σ H1 ⟨cell, ns1, a1, c1, rfl, f1, f2, ha1, hc1, hc12, B1, rfl⟩
  refine ⟨_, rfl, st, _, 1, .int a1, rfl, rfl, SqL.of f1, rfl, rfl, _, rfl, ?_⟩
  refine ite2 (fun h0 => ?_) (fun h0 => ?_)
  · refine ⟨_, rfl, st, _, 0, .ref q, rfl, rfl, SqL.of f1, rfl, Nat.zero_le _, fun p hp => ?_⟩
    have nps : p ≠ st := fun e => by rw [e, f1] at hp; cases hp
    have npq : p ≠ q := fun e => by rw [e, f2] at hp; cases hp
    have g1 : upd H1 p (.lst []) st = some (.lst [.ref q, .int a1, .int (n + 1), .int c1]) := by rw [upd_ne nps.symm]; exact f1
    have g2 : upd H1 p (.lst []) q = some (.lst (ns1.map V.int)) := by rw [upd_ne npq.symm]; exact f2
    have BB : But st q H (upd H1 p (.lst [])) := B1.trans (But.new hp)
    refine ⟨.list (ns1.map PyData.int), .list [], .lst (SqL.of g2) (dp_ints ns1), .lst (SqL.of upd_same) .nil, PySem.W.ke_shaped_ints ns1, by decide, _, rfl, ?_⟩
    rw [eqv_ints_nil]
    generalize upd H1 p (.lst []) = H2 at g1 g2 BB ⊢
    cases ns1 with
    | nil =>
      refine iteF ?_
      clear f1 f2 h0 B1 hp nps npq
      exact tail_draw hm hm2 hn0 hn1 ha1 hc1 hc12 g1 g2 BB nsq k
    | cons z ns1 =>
      refine iteT ?_
      refine ⟨fun σ' H' => ∃ (cell : Option V) (ns : List Int) (a c : Int), σ' = [some (.ref st), some (.int m), cell, none, none] ∧ H' st = some (.lst [.ref q, .int a, .int (n + 1), .int c]) ∧ H' q = some (.lst (ns.map V.int)) ∧ 0 ≤ a ∧ 0 ≤ c ∧ c < 2147483647 ∧ But st q H H' ∧ ns.length = ns1.length,
        fun σ' H' ⟨cell, ns, a, c, e1, e2, e3, e4, e5, e6, e7, e8⟩ => ⟨ns.length, by rw [e8]; exact Nat.lt_succ_self _, cell, ns, a, c, e1, e2, e3, e4, e5, e6, e7, rfl⟩, ?_⟩
      -- cell = abs(stream[0].pop(0))
      refine ⟨_, rfl, st, _, 0, .ref q, rfl, rfl, SqL.of g1, rfl, .inl ⟨rfl, _, SqL.of g2⟩, q, _, 0, 0, .int z, rfl, rfl, g2, by decide, by decide, seq0 _ _, rfl, _, rfl, ?_⟩
      have k1 : upd H2 q (.lst (ns1.map V.int)) st = some (.lst [.ref q, .int a1, .int (n + 1), .int c1]) := by rw [upd_ne nsq]; exact g1
      have k2 : upd H2 q (.lst (ns1.map V.int)) q = some (.lst (ns1.map V.int)) := upd_same
      have BC : But st q H (upd H2 q (.lst (ns1.map V.int))) := BB.trans But.q
      have hcell : 0 ≤ (if z < 0 then -z else z) := by split <;> omega
      show tSeq _ _ _ _ (upd H2 q (.lst (ns1.map V.int)))
      generalize upd H2 q (.lst (ns1.map V.int)) = H3 at k1 k2 BC ⊢
      generalize (if z < 0 then -z else z) = cl at hcell ⊢
      -- stream[3] = int(stream[3] * 8191 + cell + 3) % 2147483647
      refine ⟨_, rfl, st, _, 3, .int c1, rfl, rfl, SqL.of k1, rfl, _, _, rfl, rfl, .inr ⟨by decide, by decide⟩, _, rfl, _, _, rfl, rfl, _, _, rfl, rfl, .inl ⟨_, rfl, _, _, rfl, rfl, (by show (0 : Int) < 2147483647; decide), _, rfl, st, _, 3, 3, rfl, rfl, k1, rfl, ?_⟩⟩
      have l1 : ∀ x : Int, upd H3 st (.lst [.ref q, .int a1, .int (n + 1), .int x]) q = some (.lst (ns1.map V.int)) := fun x => by rw [upd_ne nqs]; exact k2
      have z0 : 0 ≤ (c1 * 8191 + cl + 3) % 2147483647 := Int.emod_nonneg _ (by decide)
      have z1 : (c1 * 8191 + cl + 3) % 2147483647 < 2147483647 := Int.emod_lt_of_pos _ (by decide)
      -- stream[1] = cell if cell >= 10 ** 18 else 0
      refine ⟨_, rfl, _, _, rfl, rfl, ⟨by decide, by decide, by decide⟩, _, _, rfl, rfl, _, rfl, ?_⟩
      refine ite2 (fun _ => ?_) (fun _ => ?_)
      · refine ⟨_, rfl, _, rfl, st, _, 1, 1, rfl, rfl, upd_same, rfl, ?_⟩
        exact ⟨_, ns1, cl, _, rfl, upd_same, by rw [upd_ne nqs]; exact l1 _, hcell, z0, z1, BC.trans (But.st.trans But.st), rfl⟩
      · refine ⟨_, rfl, st, _, 1, 1, rfl, rfl, upd_same, rfl, ?_⟩
        exact ⟨_, ns1, 0, _, rfl, upd_same, by rw [upd_ne nqs]; exact l1 _, by decide, z0, z1, BC.trans (But.st.trans But.st), rfl⟩
  · refine iteF ?_
    exact tail_draw hm hm2 hn0 hn1 ha1 hc1 hc12 f1 f2 B1 nsq k
end
end N4
namespace N4
open DL (StrAt same_new Df pe_df)
open PySem PySem.Spec PySem.W PyProof.Rows L2
end N4
/-! _law_same -/
namespace N4
open DL (StrAt same_new Df pe_df)
open PySem PySem.Spec PySem.W PyProof.Rows L2 LiI RZ
theorem same_new' {H : Hp} {p : Addr} (h : H p = none) (o : HO) : Same H (upd H p o) := fun b u q => by rw [upd_ne (ne_of_none q h)]; exact q
theorem walk_zipT {K : Frag} {a b : Addr} {xs ys : List V} {n : Nat} (hn : n = min xs.length ys.length) : Walk (ItzT K a b) n (fun H => SqT K H a xs ∧ SqT K H b ys) (YPair (fun i => xs[i]?) (fun i => ys[i]?)) :=
  ⟨fun i H hi q => ⟨xs, ys, xs[i]'(by omega), ys[i]'(by omega), q.1, q.2, by simp, by simp⟩, fun H q => ⟨xs, ys, q.1, q.2, by omega⟩,
   fun i H v H' hi q y => by
    obtain ⟨T, x, y, h1, h2, h3, h4, h5⟩ := y
    exact ⟨T, x, y, h1, h2, h3, h4 xs q.1, h5 ys q.2⟩⟩
def fl0 : V → Bool
  | .non => true
  | .bl _ => true
  | .int _ => true
  | .str _ => true
  | _ => false
abbrev sSame : Stmt := top 49
/-- _law_same, its own calls keeping S -/
def spStep (S : Sp) : Sp := fun vs H Q _ => ∃ v w : V, vs = [v, w] ∧ (∀ H', Same H H' → Q (.bl true) H') ∧
  ((v = w ∧ fl0 v = true) ∨
  (∃ (a b : Addr) (xs ys : List V), v = .ref a ∧ w = .ref b ∧ ((H a = some (.lst xs) ∧ H b = some (.lst ys)) ∨ (H a = some (.tup xs) ∧ H b = some (.tup ys))) ∧ xs.length = ys.length ∧ xs.length ≤ 1000 ∧
    ∀ (i : Nat) (x y : V) (H' : Hp) (Q' : VK), xs[i]? = some x → ys[i]? = some y → Same H H' → (∀ H2, Same H' H2 → Q' (.bl true) H2) → S [x, y] H' Q' E0) ∨
  (∃ (a b : Addr) (ks : List (Key × V)), v = .ref a ∧ w = .ref b ∧ H a = some (.dK ks) ∧ H b = some (.dK ks) ∧
    ∀ (p q : Addr) (ts us : List Addr) (H' : Hp) (Q' : VK), Same H H' → H' p = some (.lst (ts.map V.ref)) → H' q = some (.lst (us.map V.ref)) → Paired (fun (t : Addr) (z : Key × V) => H' t = some (.tup [kV z.1, z.2])) ts ks → Paired (fun (t : Addr) (z : Key × V) => H' t = some (.tup [kV z.1, z.2])) us ks →
      (∀ H2, Same H' H2 → Q' (.bl true) H2) → S [.ref p, .ref q] H' Q' E0))
theorem kf {K : Frag} {a b : String} (h : kitB a b = some false := by decide +kernel) : kitOne K (.type a) (.type b) = some false := kit_ty h
theorem kt {K : Frag} {a b : String} (h : kitB a b = some true := by decide +kernel) : kitOne K (.type a) (.type b) = some true := kit_ty h
theorem kf2 {K : Frag} {a b c : String} (h : kitB a b = some false := by decide +kernel) (h2 : kitB a c = some false := by decide +kernel) : kitAny K (.type a) [.type b, .type c] = some false :=
  kitAny_cons (kit_ty h) (fun _ => kitAny_cons (kit_ty h2) (fun _ => kitAny_nil) (fun z => by cases z)) (fun z => by cases z)
theorem kf3 {K : Frag} {a b c d : String} (h : kitB a b = some false := by decide +kernel) (h2 : kitB a c = some false := by decide +kernel) (h3 : kitB a d = some false := by decide +kernel) : kitAny K (.type a) [.type b, .type c, .type d] = some false :=
  kitAny_cons (kit_ty h) (fun _ => kitAny_cons (kit_ty h2) (fun _ => kitAny_cons (kit_ty h3) (fun _ => kitAny_nil) (fun z => by cases z)) (fun z => by cases z)) (fun z => by cases z)
theorem ktlst {K : Frag} : kitAny K (.type "list") [.type "list", .type "tuple"] = some true := kitAny_cons kt (fun z => by cases z) (fun _ => rfl)
theorem kttup {K : Frag} : kitAny K (.type "tuple") [.type "list", .type "tuple"] = some true := kitAny_cons kf (fun _ => kitAny_cons kt (fun z => by cases z) (fun _ => rfl)) (fun z => by cases z)
section
variable {P : Program} {w : World} {K : PySem.W.Frag} {mg : Str → Option Value} {base : Heap}
theorem scSame : FnScope ["found", "due", "mine", "theirs"] ["found", "due"] (defScope sSame) := ⟨rfl, rfl, rfl, by decide, rfl, by decide +kernel, by decide +kernel⟩
theorem ok_step {f : Addr} {fd : FuncData} {k : Nat} {S : Sp} (F : Fun K "_law_same" "_law_same" sSame f fd) (D : Df P w K mg base "_law_same" k ["found", "due"] S)
    (mi : mg "isinstance" = none) (ml : mg "list" = none) (mt : mg "tuple" = none) (mn : mg "len" = none) (ma : mg "all" = none) (mz : mg "zip" = none) (md : mg "dict" = none) (mb : mg "bool" = none) (mI : mg "int" = none) (ms : mg "str" = none) :
    FnOk P w K mg base CX0 (k + 1) f fd ["found", "due"] (spStep S) := by
  refine F.ok scSame (fun vs H Q E h => by obtain ⟨v, w, rfl, _⟩ := h; rfl) fun cdv A outer s0 H vs Q E hr hsp => ?_
  obtain ⟨v, w', rfl, kq, hsp⟩ := hsp
  refine ⟨_, pss_cons (ps_if (pt_val (pe_callB call_isiT (by rfl) mi (by decide +kernel) (pa_cons (pv 1) (pa_cons (pe_tup (pa_cons (pe_bltn (v := .ty "list") (by rfl) ml (by decide +kernel) rfl) (pa_cons (pe_bltn (v := .ty "tuple") (by rfl) mt (by decide +kernel) rfl) pa_nil))) pa_nil))))
      (pss_cons (ps_if (PW.pt (pw_or (pt_cmpR op_ne (pe_callB call_isi (by rfl) mi (by decide +kernel) (pa_cons (pv 0) (pa_cons (pe_bltn (v := .ty "list") (by rfl) ml (by decide +kernel) rfl) pa_nil))) (pe_callB call_isi (by rfl) mi (by decide +kernel) (pa_cons (pv 1) (pa_cons (pe_bltn (v := .ty "list") (by rfl) ml (by decide +kernel) rfl) pa_nil))) (nomark _))
          (pw_or1 (pt_cmpR op_ne (pe_callB call_isi (by rfl) mi (by decide +kernel) (pa_cons (pv 0) (pa_cons (pe_bltn (v := .ty "tuple") (by rfl) mt (by decide +kernel) rfl) pa_nil))) (pe_callB call_isi (by rfl) mi (by decide +kernel) (pa_cons (pv 1) (pa_cons (pe_bltn (v := .ty "tuple") (by rfl) mt (by decide +kernel) rfl) pa_nil))) (nomark _))))) (pss_one (ps_ret pe_bl)) pss_nil)
      (pss_one (ps_ret (pe_and (pe_cmpR op_eq (pe_callB call_len_seq (by rfl) mn (by decide +kernel) (pa_cons (pv 0) pa_nil)) (pe_callB call_len_seq (by rfl) mn (by decide +kernel) (pa_cons (pv 1) pa_nil)) (nomark _))
        (pe_one (pe_callB (cr_all rfl) (by rfl) ma (by decide +kernel) (pa_cons (pe_lc (own := [("mine", 2), ("theirs", 3)]) (g := gTup K 2 (gCons (gName 2) (gCons (gName 3) gNil))) (tt := tYes) (te := tCall S [] E0 (tCons (tVar 2) (tCons (tVar 3) tNil))) rfl scSame.nd (pi_zipA (by rfl) mz (pa_cons (pv 0) (pa_cons (pv 1) pa_nil)))
          (blkOk_by (own := [("mine", 2), ("theirs", 3)]) (N := ["found", "due", "mine", "theirs"]) (sc := defScope sSame) (by decide +kernel)) (fun _ _ _ _ _ => pg_tup rfl (pgs_cons (pg_name (i := 2) scSame.nd rfl (Or.inl rfl)) (pgs_cons (pg_name (i := 3) scSame.nd rfl (Or.inl rfl)) pgs_nil))) (fun _ _ _ _ _ => pts_nil)
          (fun _ _ _ _ _ => pe_df D hr (by rfl) (pa_cons (pv 2) (pa_cons (pv 3) pa_nil)))) pa_nil))))))) pss_nil)
    (pss_cons (ps_if (pt_val (pe_callB call_isi (by rfl) mi (by decide +kernel) (pa_cons (pv 1) (pa_cons (pe_bltn (v := .ty "dict") (by rfl) md (by decide +kernel) rfl) pa_nil))))
      (pss_one (ps_ret (pe_and (pe_callB call_isi (by rfl) mi (by decide +kernel) (pa_cons (pv 0) (pa_cons (pe_bltn (v := .ty "dict") (by rfl) md (by decide +kernel) rfl) pa_nil)))
        (pe_one (pe_df D hr (by rfl) (pa_cons (pe_listItems rfl (pv 0) (by rfl) ml (by decide +kernel)) (pa_cons (pe_listItems rfl (pv 1) (by rfl) ml (by decide +kernel)) pa_nil))))))) pss_nil)
    (pss_cons (ps_if (PW.pt (pw_or (pt_val (pe_callB call_isi (by rfl) mi (by decide +kernel) (pa_cons (pv 1) (pa_cons (pe_bltn (v := .ty "bool") (by rfl) mb (by decide +kernel) rfl) pa_nil)))) (pw_or1 (pt_val (pe_callB call_isi (by rfl) mi (by decide +kernel) (pa_cons (pv 0) (pa_cons (pe_bltn (v := .ty "bool") (by rfl) mb (by decide +kernel) rfl) pa_nil)))))))
      (pss_one (ps_ret (pe_and (pe_callB call_isi (by rfl) mi (by decide +kernel) (pa_cons (pv 1) (pa_cons (pe_bltn (v := .ty "bool") (by rfl) mb (by decide +kernel) rfl) pa_nil))) (pe_and (pe_callB call_isi (by rfl) mi (by decide +kernel) (pa_cons (pv 0) (pa_cons (pe_bltn (v := .ty "bool") (by rfl) mb (by decide +kernel) rfl) pa_nil)))
        (pe_one (pe_cmpR op_eq (pv 0) (pv 1) (nomark _))))))) pss_nil)
    (pss_cons (ps_if (PW.pt (pw_or (pt_cmpR op_isN (pv 1) pe_non (nomark _)) (pw_or1 (pt_cmpR op_isN (pv 0) pe_non (nomark _)))))
      (pss_one (ps_ret (pe_and (pe_cmpR op_isN (pv 1) pe_non (nomark _)) (pe_one (pe_cmpR op_isN (pv 0) pe_non (nomark _)))))) pss_nil)
    (pss_cons (ps_if (PW.pt (pw_or (pt_cmpR op_ne (pe_callB call_isi (by rfl) mi (by decide +kernel) (pa_cons (pv 1) (pa_cons (pe_bltn (v := .ty "int") (by rfl) mI (by decide +kernel) rfl) pa_nil))) (pe_callB call_isi (by rfl) mi (by decide +kernel) (pa_cons (pv 0) (pa_cons (pe_bltn (v := .ty "int") (by rfl) mI (by decide +kernel) rfl) pa_nil))) (nomark _))
          (pw_or1 (pt_cmpR op_ne (pe_callB call_isi (by rfl) mi (by decide +kernel) (pa_cons (pv 1) (pa_cons (pe_bltn (v := .ty "str") (by rfl) ms (by decide +kernel) rfl) pa_nil))) (pe_callB call_isi (by rfl) mi (by decide +kernel) (pa_cons (pv 0) (pa_cons (pe_bltn (v := .ty "str") (by rfl) ms (by decide +kernel) rfl) pa_nil))) (nomark _))))) (pss_one (ps_ret pe_bl)) pss_nil)
    (pss_one (ps_ret (pe_and (pe_not (pe_callB call_isiT (by rfl) mi (by decide +kernel) (pa_cons (pv 0) (pa_cons (pe_tup (pa_cons (pe_bltn (v := .ty "list") (by rfl) ml (by decide +kernel) rfl) (pa_cons (pe_bltn (v := .ty "tuple") (by rfl) mt (by decide +kernel) rfl) (pa_cons (pe_bltn (v := .ty "dict") (by rfl) md (by decide +kernel) rfl) pa_nil)))) pa_nil))))
        (pe_one (pe_cmpR op_eq (pv 0) (pv 1) (nomark _)))))))))), ?_⟩
  rcases hsp with ⟨rfl, hf⟩ | ⟨a, b, xs, ys, rfl, rfl, hH, hl, hl2, hS⟩ | ⟨a, b, ks, rfl, rfl, ha, hb, hS⟩
  · -- None, a bool, an int, a text
    refine ⟨_, rfl, by show 2 ≤ sizeLine; decide, fun t ht => ?_⟩
    have S1 : Same H (upd H t (.tup [.ty "list", .ty "tuple"])) := same_new' ht _
    have e1 : upd H t (.tup [.ty "list", .ty "tuple"]) t = some (.tup [.ty "list", .ty "tuple"]) := upd_same
    have ct : Paired ClsV [V.ty "list", V.ty "tuple"] [.type "list", .type "tuple"] := .cons (.ty _) (.cons (.ty _) .nil)
    have ct3 : Paired ClsV [V.ty "list", V.ty "tuple", V.ty "dict"] [.type "list", .type "tuple", .type "dict"] := .cons (.ty _) (.cons (.ty _) (.cons (.ty _) .nil))
    clear ht
    cases v with
    | non =>
      refine ⟨_, t, _, _, _, _, rfl, e1, ct, .base .non, kf2, _, rfl, ?_⟩
      refine iteF ?_
      refine ⟨_, rfl, _, _, _, _, _, rfl, .ty _, .base .non, kf, _, rfl, ?_⟩
      refine iteF ?_
      refine ⟨_, rfl, _, _, _, _, _, rfl, .ty _, .base .non, kf, _, rfl, ?_⟩
      refine iteF ?_
      refine ⟨_, rfl, _, _, _, _, _, rfl, .ty _, .base .non, kf, _, rfl, ?_⟩
      refine iteF ?_
      refine ⟨_, rfl, rfl, _, rfl, ?_⟩
      refine iteT ?_
      refine ⟨_, rfl, rfl, true, rfl, ?_⟩
      refine iteT ?_
      refine ⟨_, rfl, rfl, ?_⟩
      exact kq _ S1
    | bl x =>
      refine ⟨_, t, _, _, _, _, rfl, e1, ct, .base (.bl x), kf2, _, rfl, ?_⟩
      refine iteF ?_
      refine ⟨_, rfl, _, _, _, _, _, rfl, .ty _, .base (.bl x), kf, _, rfl, ?_⟩
      refine iteF ?_
      refine ⟨_, rfl, _, _, _, _, _, rfl, .ty _, .base (.bl x), kt, _, rfl, ?_⟩
      refine iteT ?_
      refine ⟨_, rfl, _, _, _, _, _, rfl, .ty _, .base (.bl x), kt, ?_⟩
      refine ⟨true, rfl, ?_⟩
      refine iteT ?_
      refine ⟨_, rfl, _, _, _, _, _, rfl, .ty _, .base (.bl x), kt, ?_⟩
      refine ⟨true, rfl, ?_⟩
      refine iteT ?_
      refine ⟨_, rfl, _, rfl, rfl, ?_⟩
      rw [decide_eq_true rfl]
      exact kq _ S1
    | int i =>
      refine ⟨_, t, _, _, _, _, rfl, e1, ct, .base (.int i), kf2, _, rfl, ?_⟩
      refine iteF ?_
      refine ⟨_, rfl, _, _, _, _, _, rfl, .ty _, .base (.int i), kf, _, rfl, ?_⟩
      refine iteF ?_
      refine ⟨_, rfl, _, _, _, _, _, rfl, .ty _, .base (.int i), kf, _, rfl, ?_⟩
      refine iteF ?_
      refine ⟨_, rfl, _, _, _, _, _, rfl, .ty _, .base (.int i), kf, _, rfl, ?_⟩
      refine iteF ?_
      refine ⟨_, rfl, rfl, _, rfl, ?_⟩
      refine iteF ?_
      refine ⟨_, rfl, rfl, _, rfl, ?_⟩
      refine iteF ?_
      refine ⟨_, rfl, _, _, _, _, _, rfl, .ty _, .base (.int i), kt, _, rfl, _, _, _, _, _, rfl, .ty _, .base (.int i), kt, rfl, _, rfl, ?_⟩
      refine iteF ?_
      refine ⟨_, rfl, _, _, _, _, _, rfl, .ty _, .base (.int i), kf, _, rfl, _, _, _, _, _, rfl, .ty _, .base (.int i), kf, rfl, _, rfl, ?_⟩
      refine iteF ?_
      refine ⟨_, rfl, by show 3 ≤ sizeLine; decide, fun t2 ht2 => ?_⟩
      refine ⟨_, t2, _, _, _, _, rfl, upd_same, ct3, .base (.int i), kf3, ?_⟩
      refine ⟨false, rfl, ?_⟩
      refine ⟨true, rfl, ?_⟩
      refine iteT ?_
      refine ⟨_, rfl, _, rfl, rfl, ?_⟩
      rw [decide_eq_true rfl]
      exact kq _ (S1.trans (same_new' ht2 _))
    | str x =>
      refine ⟨_, t, _, _, _, _, rfl, e1, ct, .base (.str x), kf2, _, rfl, ?_⟩
      refine iteF ?_
      refine ⟨_, rfl, _, _, _, _, _, rfl, .ty _, .base (.str x), kf, _, rfl, ?_⟩
      refine iteF ?_
      refine ⟨_, rfl, _, _, _, _, _, rfl, .ty _, .base (.str x), kf, _, rfl, ?_⟩
      refine iteF ?_
      refine ⟨_, rfl, _, _, _, _, _, rfl, .ty _, .base (.str x), kf, _, rfl, ?_⟩
      refine iteF ?_
      refine ⟨_, rfl, rfl, _, rfl, ?_⟩
      refine iteF ?_
      refine ⟨_, rfl, rfl, _, rfl, ?_⟩
      refine iteF ?_
      refine ⟨_, rfl, _, _, _, _, _, rfl, .ty _, .base (.str x), kf, _, rfl, _, _, _, _, _, rfl, .ty _, .base (.str x), kf, rfl, _, rfl, ?_⟩
      refine iteF ?_
      refine ⟨_, rfl, _, _, _, _, _, rfl, .ty _, .base (.str x), kt, _, rfl, _, _, _, _, _, rfl, .ty _, .base (.str x), kt, rfl, _, rfl, ?_⟩
      refine iteF ?_
      refine ⟨_, rfl, by show 3 ≤ sizeLine; decide, fun t2 ht2 => ?_⟩
      refine ⟨_, t2, _, _, _, _, rfl, upd_same, ct3, .base (.str x), kf3, ?_⟩
      refine ⟨false, rfl, ?_⟩
      refine ⟨true, rfl, ?_⟩
      refine iteT ?_
      refine ⟨_, rfl, _, rfl, rfl, ?_⟩
      rw [decide_eq_true rfl]
      exact kq _ (S1.trans (same_new' ht2 _))
    | byt _ => cases hf
    | flt _ => cases hf
    | ref _ => cases hf
    | ty _ => cases hf
  · refine ⟨_, rfl, by show 2 ≤ sizeLine; decide, fun t ht => ?_⟩
    have S1 : Same H (upd H t (.tup [.ty "list", .ty "tuple"])) := same_new' ht _
    have e1 : upd H t (.tup [.ty "list", .ty "tuple"]) t = some (.tup [.ty "list", .ty "tuple"]) := upd_same
    have ct : Paired ClsV [V.ty "list", V.ty "tuple"] [.type "list", .type "tuple"] := .cons (.ty _) (.cons (.ty _) .nil)
    clear ht
    generalize upd H t (.tup [.ty "list", .ty "tuple"]) = H1 at S1 e1 ⊢
    rcases hH with ⟨ha, hb⟩ | ⟨ha, hb⟩
    · have ha1 := S1 _ _ ha
      have hb1 := S1 _ _ hb
      refine ⟨_, t, _, _, _, _, rfl, e1, ct, .base (.lst hb1), ktlst, _, rfl, ?_⟩
      refine iteT ?_
      refine ⟨_, rfl, _, _, _, _, _, rfl, .ty _, .base (.lst ha1), kt, _, rfl, _, _, _, _, _, rfl, .ty _, .base (.lst hb1), kt, rfl, _, rfl, ?_⟩
      refine iteF ?_
      refine ⟨_, rfl, _, _, _, _, _, rfl, .ty _, .base (.lst ha1), kf, _, rfl, _, _, _, _, _, rfl, .ty _, .base (.lst hb1), kf, rfl, _, rfl, ?_⟩
      refine iteF ?_
      refine ⟨_, rfl, a, xs, rfl, .inl (SqL.of ha1), _, rfl, b, ys, rfl, .inl (SqL.of hb1), rfl, true, by rw [hl, decide_eq_true rfl], ?_⟩
      refine iteT ?_
      refine ⟨_, rfl, _, rfl, a, b, xs, ys, rfl, .inl ⟨SqL.of ha1, SqL.of hb1, fun D hD => ?_⟩⟩
      refine lc_it (walk_zip (n := xs.length) (by omega)) (fun i H' => Same H1 H' ∧ H' D = some (.lst ((List.replicate i true).map V.bl))) ⟨same_new' hD _, upd_same⟩ (fun i H' _ p => ⟨SqL.of (p.1 _ _ ha1), SqL.of (p.1 _ _ hb1)⟩) (fun i x H' H'' hi p y => ?_) (fun H' p => ?_)
      · obtain ⟨T, x', y', rfl, hT, rfl, h1, h2⟩ := y
        refine ⟨T, _, rfl, SqT.of upd_same, rfl, x', _, rfl, y', _, rfl, rfl, rfl, _, rfl, _, rfl, ?_⟩
        refine hS i x' y' _ _ h1 h2 (S1.trans (p.1.trans (same_new' hT _))) fun H2 s2 => ?_
        have hD2 := s2 _ _ (same_new' hT (.tup [x', y']) _ _ p.2)
        refine ⟨_, hD2, ?_, fun b' o e => ?_, ?_⟩
        · rw [List.length_map, List.length_replicate]
          exact Nat.lt_of_lt_of_le (Nat.lt_of_lt_of_le hi hl2) (by decide)
        · rw [upd_ne (ne_of_none e hD)]
          exact s2 _ _ (same_new' hT _ _ _ (p.1 _ _ e))
        · rw [upd_same, List.replicate_succ', List.map_append]
          rfl
      · refine ⟨D, List.replicate xs.length true, rfl, SqL.of p.2, ?_⟩
        rw [show (List.replicate xs.length true).all id = true by simp]
        exact kq _ (S1.trans p.1)
    · have ha1 := S1 _ _ ha
      have hb1 := S1 _ _ hb
      refine ⟨_, t, _, _, _, _, rfl, e1, ct, .base (.tup hb1), kttup, _, rfl, ?_⟩
      refine iteT ?_
      refine ⟨_, rfl, _, _, _, _, _, rfl, .ty _, .base (.tup ha1), kf, _, rfl, _, _, _, _, _, rfl, .ty _, .base (.tup hb1), kf, rfl, _, rfl, ?_⟩
      refine iteF ?_
      refine ⟨_, rfl, _, _, _, _, _, rfl, .ty _, .base (.tup ha1), kt, _, rfl, _, _, _, _, _, rfl, .ty _, .base (.tup hb1), kt, rfl, _, rfl, ?_⟩
      refine iteF ?_
      refine ⟨_, rfl, a, xs, rfl, .inr (SqT.of ha1), _, rfl, b, ys, rfl, .inr (SqT.of hb1), rfl, true, by rw [hl, decide_eq_true rfl], ?_⟩
      refine iteT ?_
      refine ⟨_, rfl, _, rfl, a, b, xs, ys, rfl, .inr ⟨SqT.of ha1, SqT.of hb1, fun D hD => ?_⟩⟩
      refine lc_it (walk_zipT (n := xs.length) (by omega)) (fun i H' => Same H1 H' ∧ H' D = some (.lst ((List.replicate i true).map V.bl))) ⟨same_new' hD _, upd_same⟩ (fun i H' _ p => ⟨SqT.of (p.1 _ _ ha1), SqT.of (p.1 _ _ hb1)⟩) (fun i x H' H'' hi p y => ?_) (fun H' p => ?_)
      · obtain ⟨T, x', y', rfl, hT, rfl, h1, h2⟩ := y
        refine ⟨T, _, rfl, SqT.of upd_same, rfl, x', _, rfl, y', _, rfl, rfl, rfl, _, rfl, _, rfl, ?_⟩
        refine hS i x' y' _ _ h1 h2 (S1.trans (p.1.trans (same_new' hT _))) fun H2 s2 => ?_
        have hD2 := s2 _ _ (same_new' hT (.tup [x', y']) _ _ p.2)
        refine ⟨_, hD2, ?_, fun b' o e => ?_, ?_⟩
        · rw [List.length_map, List.length_replicate]
          exact Nat.lt_of_lt_of_le (Nat.lt_of_lt_of_le hi hl2) (by decide)
        · rw [upd_ne (ne_of_none e hD)]
          exact s2 _ _ (same_new' hT _ _ _ (p.1 _ _ e))
        · rw [upd_same, List.replicate_succ', List.map_append]
          rfl
      · refine ⟨D, List.replicate xs.length true, rfl, SqL.of p.2, ?_⟩
        rw [show (List.replicate xs.length true).all id = true by simp]
        exact kq _ (S1.trans p.1)
  · refine ⟨_, rfl, by show 2 ≤ sizeLine; decide, fun t ht => ?_⟩
    have S1 : Same H (upd H t (.tup [.ty "list", .ty "tuple"])) := same_new' ht _
    have e1 : upd H t (.tup [.ty "list", .ty "tuple"]) t = some (.tup [.ty "list", .ty "tuple"]) := upd_same
    have ct : Paired ClsV [V.ty "list", V.ty "tuple"] [.type "list", .type "tuple"] := .cons (.ty _) (.cons (.ty _) .nil)
    clear ht
    generalize upd H t (.tup [.ty "list", .ty "tuple"]) = H1 at S1 e1 ⊢
    have ha1 := S1 _ _ ha
    have hb1 := S1 _ _ hb
    refine ⟨_, t, _, _, _, _, rfl, e1, ct, .base (.dK hb1), kf2, _, rfl, ?_⟩
    refine iteF ?_
    refine ⟨_, rfl, _, _, _, _, _, rfl, .ty _, .base (.dK hb1), kt, _, rfl, ?_⟩
    refine iteT ?_
    refine ⟨_, rfl, _, _, _, _, _, rfl, .ty _, .base (.dK ha1), kt, true, rfl, ?_⟩
    refine iteT ?_
    refine ⟨_, rfl, a, ks, rfl, ha1, fun H2 p ts k2 _ _ _ hp pt => ?_⟩
    refine ⟨_, rfl, b, ks, rfl, k2 _ _ hb1, fun H3 q us k3 _ _ _ hq pu => ?_⟩
    have S3 : Same H H3 := fun b' o e => k3 _ _ (k2 _ _ (S1 _ _ e))
    exact hS p q ts us H3 _ S3 (k3 _ _ hp) hq (L2.Paired.mapP pt fun t z e => k3 _ _ e) pu fun H4 s4 => kq _ (S3.trans s4)
end
end N4
namespace N4
open DL (StrAt same_new Df pe_df)
open PySem PySem.Spec PySem.W PyProof.Rows L2 LiI RZ
def spPick : Sp := fun vs H Q _ => ∃ (st q l : Addr) (n : Int) (xs : List V), vs = [.ref st, .ref l] ∧ StrAt H st q n ∧ st ≠ q ∧ 0 ≤ n ∧ n < 1000000 ∧ H l = some (.lst xs) ∧ 0 < xs.length ∧ xs.length ≤ 1000 ∧ l ≠ st ∧ l ≠ q ∧
  ∀ (x : V) (H' : Hp), x ∈ xs → StrAt H' st q (n + 1) → But st q H H' → Q x H'
section
variable {P : Program} {w : World} {K : PySem.W.Frag} {mg : Str → Option Value} {base : Heap}
theorem scPick : FnScope ["stream", "things"] ["stream", "things"] (defScope sPick) := ⟨rfl, rfl, rfl, by decide, rfl, by decide +kernel, by decide +kernel⟩
theorem ok_pick {f : Addr} {fd : FuncData} (F : Fun K "_law_pick" "_law_pick" sPick f fd) (D : Df P w K mg base "_law_draw" 1 ["stream", "many"] spDraw) (mn : mg "len" = none) : FnOk P w K mg base CX0 2 f fd ["stream", "things"] spPick := by
  refine F.ok scPick (fun vs H Q E h => by obtain ⟨st, q, l, n, xs, rfl, _⟩ := h; rfl) fun cdv A outer s0 H vs Q E hr hsp => ?_
  obtain ⟨st, q, l, n, xs, rfl, hS, nsq, hn0, hn1, hl, hx0, hx1, n1, n2, k⟩ := hsp
  refine ⟨_, pss_one (ps_ret (pe_ix ix_list (pv 1) (pe_df D hr (by rfl) (pa_cons (pv 0) (pa_cons (pe_callB call_len_seq (by rfl) mn (by decide +kernel) (pa_cons (pv 1) pa_nil)) pa_nil))) (fun _ _ => rfl))), ?_⟩
  refine ⟨_, rfl, _, rfl, _, rfl, l, xs, rfl, .inl (SqL.of hl), ?_⟩
  refine ⟨st, q, n, xs.length, rfl, hS, nsq, by omega, by omega, hn0, hn1, fun d H' h0 h1 hS' hB => ?_⟩
  have hl' := hB _ _ hl n1 n2
  obtain ⟨j, rfl⟩ := Int.eq_ofNat_of_zero_le h0
  have hj : j < xs.length := by omega
  refine ⟨l, xs, _, xs[j], rfl, rfl, SqL.of hl', atI_nat (by simp), k _ H' (List.getElem_mem hj) hS' hB⟩
end
end N4
set_option Elab.async false
set_option linter.all false
set_option maxRecDepth 100000
set_option maxHeartbeats 0
namespace H4
open PySem PySem.Spec PyProof.Rows L2
open N4 (top)
def d_1 : He.DefD := ⟨("is_list", none), "is_list", "is_list", defArgs (top 1), defBody (top 1), defScope (top 1), [], []⟩
def d_2 : He.DefD := ⟨("is_whole", none), "is_whole", "is_whole", defArgs (top 2), defBody (top 2), defScope (top 2), [], []⟩
def d_3 : He.DefD := ⟨("is_number", none), "is_number", "is_number", defArgs (top 3), defBody (top 3), defScope (top 3), [], []⟩
def d_4 : He.DefD := ⟨("is_below", none), "is_below", "is_below", defArgs (top 4), defBody (top 4), defScope (top 4), [], []⟩
def d_5 : He.DefD := ⟨("is_row", none), "is_row", "is_row", defArgs (top 5), defBody (top 5), defScope (top 5), [], []⟩
def d_15 : He.DefD := ⟨("need_width", none), "need_width", "need_width", defArgs (top 15), defBody (top 15), defScope (top 15), [], []⟩
def d_16 : He.DefD := ⟨("ones", none), "ones", "ones", defArgs (top 16), defBody (top 16), defScope (top 16), [], []⟩
def d_17 : He.DefD := ⟨("are_words", none), "are_words", "are_words", defArgs (top 17), defBody (top 17), defScope (top 17), [], []⟩
def d_18 : He.DefD := ⟨("sums_by", none), "sums_by", "sums_by", defArgs (top 18), defBody (top 18), defScope (top 18), [], []⟩
def d_19 : He.DefD := ⟨("why_not", none), "why_not", "why_not", defArgs (top 19), defBody (top 19), defScope (top 19), [], []⟩
def d_21 : He.DefD := ⟨("kept_store", none), "kept_store", "kept_store", defArgs (top 21), defBody (top 21), defScope (top 21), [], []⟩
def d_23 : He.DefD := ⟨("mark_by", none), "mark_by", "mark_by", defArgs (top 23), defBody (top 23), defScope (top 23), [], []⟩
def d_24 : He.DefD := ⟨("need_image", none), "need_image", "need_image", defArgs (top 24), defBody (top 24), defScope (top 24), [], []⟩
def d_29 : He.DefD := ⟨("kept_ring", none), "kept_ring", "kept_ring", defArgs (top 29), defBody (top 29), defScope (top 29), [], []⟩
def d_30 : He.DefD := ⟨("is_ring", none), "is_ring", "is_ring", defArgs (top 30), defBody (top 30), defScope (top 30), [], []⟩
def d_31 : He.DefD := ⟨("need_ring", none), "need_ring", "need_ring", defArgs (top 31), defBody (top 31), defScope (top 31), [], []⟩
def d_32 : He.DefD := ⟨("size_of", none), "size_of", "size_of", defArgs (top 32), defBody (top 32), defScope (top 32), [], []⟩
def d_33 : He.DefD := ⟨("cells_of", none), "cells_of", "cells_of", defArgs (top 33), defBody (top 33), defScope (top 33), [], []⟩
def d_34 : He.DefD := ⟨("image_in", none), "image_in", "image_in", defArgs (top 34), defBody (top 34), defScope (top 34), [], []⟩
def d_35 : He.DefD := ⟨("ring_image", none), "ring_image", "ring_image", defArgs (top 35), defBody (top 35), defScope (top 35), [], []⟩
def d_36 : He.DefD := ⟨("fresh_ring", none), "fresh_ring", "fresh_ring", defArgs (top 36), defBody (top 36), defScope (top 36), [], []⟩
def d_37 : He.DefD := ⟨("is_valid", none), "is_valid", "is_valid", defArgs (top 37), defBody (top 37), defScope (top 37), [], []⟩
def d_38 : He.DefD := ⟨("is_good", none), "is_good", "is_good", defArgs (top 38), defBody (top 38), defScope (top 38), [], []⟩
def d_39 : He.DefD := ⟨("can_run", none), "can_run", "can_run", defArgs (top 39), defBody (top 39), defScope (top 39), [], []⟩
def d_40 : He.DefD := ⟨("run_by", none), "run_by", "run_by", defArgs (top 40), defBody (top 40), defScope (top 40), [], []⟩
def d_41 : He.DefD := ⟨("ring_run", none), "ring_run", "ring_run", defArgs (top 41), defBody (top 41), defScope (top 41), [], []⟩
def d_42 : He.DefD := ⟨("why_of", none), "why_of", "why_of", defArgs (top 42), defBody (top 42), defScope (top 42), [], []⟩
def d_43 : He.DefD := ⟨("ring_why", none), "ring_why", "ring_why", defArgs (top 43), defBody (top 43), defScope (top 43), [], []⟩
def d_45 : He.DefD := ⟨("_law_stream", none), "_law_stream", "_law_stream", defArgs (top 45), defBody (top 45), defScope (top 45), [], []⟩
def d_46 : He.DefD := ⟨("_law_draw", none), "_law_draw", "_law_draw", defArgs (top 46), defBody (top 46), defScope (top 46), [], []⟩
def d_47 : He.DefD := ⟨("_law_pick", none), "_law_pick", "_law_pick", defArgs (top 47), defBody (top 47), defScope (top 47), [], []⟩
def d_48 : He.DefD := ⟨("_law_mixed", none), "_law_mixed", "_law_mixed", defArgs (top 48), defBody (top 48), defScope (top 48), [], []⟩
def d_49 : He.DefD := ⟨("_law_same", none), "_law_same", "_law_same", defArgs (top 49), defBody (top 49), defScope (top 49), [], []⟩
def d_50 : He.DefD := ⟨("_law_spoilt", none), "_law_spoilt", "_law_spoilt", defArgs (top 50), defBody (top 50), defScope (top 50), [], []⟩
def d_51 : He.DefD := ⟨("_law_copied", none), "_law_copied", "_law_copied", defArgs (top 51), defBody (top 51), defScope (top 51), [], []⟩
def d_52 : He.DefD := ⟨("_law_loose", none), "_law_loose", "_law_loose", defArgs (top 52), defBody (top 52), defScope (top 52), [], []⟩
def d_53 : He.DefD := ⟨("_law_twice", none), "_law_twice", "_law_twice", defArgs (top 53), defBody (top 53), defScope (top 53), [], []⟩
def d_54 : He.DefD := ⟨("_law_is_number", none), "_law_is_number", "_law_is_number", defArgs (top 54), defBody (top 54), defScope (top 54), [], []⟩
def d_55 : He.DefD := ⟨("_law_f_sums", none), "_law_f_sums", "_law_f_sums", defArgs (top 55), defBody (top 55), defScope (top 55), [], []⟩
def d_56 : He.DefD := ⟨("_law_f_mark", none), "_law_f_mark", "_law_f_mark", defArgs (top 56), defBody (top 56), defScope (top 56), [], []⟩
def d_57 : He.DefD := ⟨("_law_f_image", none), "_law_f_image", "_law_f_image", defArgs (top 57), defBody (top 57), defScope (top 57), [], []⟩
def d_58 : He.DefD := ⟨("_law_f_ones", none), "_law_f_ones", "_law_f_ones", defArgs (top 58), defBody (top 58), defScope (top 58), [], []⟩
def d_59 : He.DefD := ⟨("_law_f_fresh", none), "_law_f_fresh", "_law_f_fresh", defArgs (top 59), defBody (top 59), defScope (top 59), [], []⟩
def d_60 : He.DefD := ⟨("_law_f_and", none), "_law_f_and", "_law_f_and", defArgs (top 60), defBody (top 60), defScope (top 60), [], []⟩
def d_61 : He.DefD := ⟨("_law_f_done", none), "_law_f_done", "_law_f_done", defArgs (top 61), defBody (top 61), defScope (top 61), [], []⟩
def d_62 : He.DefD := ⟨("_law_f_torn", none), "_law_f_torn", "_law_f_torn", defArgs (top 62), defBody (top 62), defScope (top 62), [], []⟩
def d_63 : He.DefD := ⟨("_law_f_cut", none), "_law_f_cut", "_law_f_cut", defArgs (top 63), defBody (top 63), defScope (top 63), [], []⟩
def d_64 : He.DefD := ⟨("_law_f_is_torn", none), "_law_f_is_torn", "_law_f_is_torn", defArgs (top 64), defBody (top 64), defScope (top 64), [], []⟩
def d_65 : He.DefD := ⟨("_law_g_drawn_image", none), "_law_g_drawn_image", "_law_g_drawn_image", defArgs (top 65), defBody (top 65), defScope (top 65), [], []⟩
def d_66 : He.DefD := ⟨("_law_g_cells", none), "_law_g_cells", "_law_g_cells", defArgs (top 66), defBody (top 66), defScope (top 66), [], []⟩
def d_67 : He.DefD := ⟨("_law_g_image", none), "_law_g_image", "_law_g_image", defArgs (top 67), defBody (top 67), defScope (top 67), [], []⟩
def d_68 : He.DefD := ⟨("_law_g_fresh", none), "_law_g_fresh", "_law_g_fresh", defArgs (top 68), defBody (top 68), defScope (top 68), [], []⟩
def d_69 : He.DefD := ⟨("_law_g_whys", none), "_law_g_whys", "_law_g_whys", defArgs (top 69), defBody (top 69), defScope (top 69), [], []⟩
def d_70 : He.DefD := ⟨("_law_g_run", none), "_law_g_run", "_law_g_run", defArgs (top 70), defBody (top 70), defScope (top 70), [], []⟩
def d_71 : He.DefD := ⟨("_law_g_ops", none), "_law_g_ops", "_law_g_ops", defArgs (top 71), defBody (top 71), defScope (top 71), [], []⟩
def d_72 : He.DefD := ⟨("_law_g_step", none), "_law_g_step", "_law_g_step", defArgs (top 72), defBody (top 72), defScope (top 72), [], []⟩
def d_73 : He.DefD := ⟨("_law_g_events", none), "_law_g_events", "_law_g_events", defArgs (top 73), defBody (top 73), defScope (top 73), [], []⟩
def d_74 : He.DefD := ⟨("_law_g_ring", none), "_law_g_ring", "_law_g_ring", defArgs (top 74), defBody (top 74), defScope (top 74), [], []⟩
def d_75 : He.DefD := ⟨("law", none), "law", "law", defArgs (top 75), defBody (top 75), defScope (top 75), [], []⟩
def fn : List He.DefD := [d_1, d_2, d_3, d_4, d_5, d_15, d_16, d_17, d_18, d_19, d_21, d_23, d_24, d_29, d_30, d_31, d_32, d_33, d_34, d_35, d_36, d_37, d_38, d_39, d_40, d_41, d_42, d_43, d_45, d_46, d_47, d_48, d_49, d_50, d_51, d_52, d_53, d_54, d_55, d_56, d_57, d_58, d_59, d_60, d_61, d_62, d_63, d_64, d_65, d_66, d_67, d_68, d_69, d_70, d_71, d_72, d_73, d_74, d_75]
def fa : List He.Fa := [.glo "is_list", .glo "is_whole", .glo "is_number", .glo "is_below", .glo "is_row", .glo "need_width", .glo "ones", .glo "are_words", .glo "sums_by", .glo "why_not", .glo "kept_store", .glo "mark_by", .glo "need_image", .glo "kept_ring", .glo "is_ring", .glo "need_ring", .glo "size_of", .glo "cells_of", .glo "image_in", .glo "ring_image", .glo "fresh_ring", .glo "is_valid", .glo "is_good", .glo "can_run", .glo "run_by", .glo "ring_run", .glo "why_of", .glo "ring_why", .glo "_law_stream", .glo "_law_draw", .glo "_law_pick", .glo "_law_mixed", .glo "_law_same", .glo "_law_spoilt", .glo "_law_copied", .glo "_law_loose", .glo "_law_twice", .glo "_law_is_number", .glo "_law_f_sums", .glo "_law_f_mark", .glo "_law_f_image", .glo "_law_f_ones", .glo "_law_f_fresh", .glo "_law_f_and", .glo "_law_f_done", .glo "_law_f_torn", .glo "_law_f_cut", .glo "_law_f_is_torn", .glo "_law_g_drawn_image", .glo "_law_g_cells", .glo "_law_g_image", .glo "_law_g_fresh", .glo "_law_g_whys", .glo "_law_g_run", .glo "_law_g_ops", .glo "_law_g_step", .glo "_law_g_events", .glo "_law_g_ring", .glo "law"] ++ [.free "isinstance", .free "len", .free "abs", .free "int", .free "all", .free "zip", .free "list", .free "tuple", .free "dict", .free "bool", .free "str", .free "range", .free "enumerate", .free "max", .free "min", .free "sum"]
def loose0 : List Str := ["is_list", "is_whole", "is_number", "is_below", "is_row", "need_width", "ones", "are_words", "sums_by", "why_not", "kept_store", "mark_by", "need_image", "kept_ring", "is_ring", "need_ring", "size_of", "cells_of", "image_in", "ring_image", "fresh_ring", "is_valid", "is_good", "can_run", "run_by", "ring_run", "why_of", "ring_why", "_law_stream", "_law_draw"]
def loose1 : List Str := ["_law_pick", "_law_mixed", "_law_same", "_law_spoilt", "_law_copied", "_law_loose", "_law_twice", "_law_is_number", "_law_f_sums", "_law_f_mark", "_law_f_image", "_law_f_ones", "_law_f_fresh", "_law_f_and", "_law_f_done", "_law_f_torn", "_law_f_cut", "_law_f_is_torn", "_law_g_drawn_image", "_law_g_cells", "_law_g_image", "_law_g_fresh", "_law_g_whys", "_law_g_run", "_law_g_ops", "_law_g_step", "_law_g_events", "_law_g_ring", "WholeError", "BadWidth"]
def loose2 : List Str := ["BadImage", "BadSlot", "NoRoom", "BadBlock", "BadBlocks", "BadCount", "BadRing"]
def loose : List Str := loose0 ++ loose1 ++ loose2
def tf : List He.Defn := [("law", none)]
abbrev R : PySem.W.OpenRow := PySem.W.OpenLaw.row PySem.Challenge.rw_neverhalf_k04_whole_rings_and_which_runs
abbrev hk : PySem.W.Hook := He.hookX 6 fa fn [] tf (fun _ => true)
def ob (s : PySem.W.SharedT) : He.AlX := He.obsX 6 fa fn [] tf (fun _ => true) (HandSHeadRun.getT s)
theorem ob_eq (s : PySem.W.SharedT) : ob s = hk.obs s.abs := He.obsX_eq (HandSHeadRun.getT_eq s)
theorem run (w : World) : HandSHeadRun.RunEq R (PySem.W.view R.prog [75]) hk ob 4300 loose w := by
  intro os
  kernel_rfl
end H4
set_option Elab.async false
set_option linter.all false
set_option maxRecDepth 100000
set_option maxHeartbeats 4000000
/-! plain data, and what stands for it in a heap -/
namespace N4
open PySem PySem.Spec PySem.W PyProof.Rows L2
/-- None, bools, ints, texts, lists, tuples -/
inductive Dat where
  | non | bl (b : Bool) | int (i : Int) | str (s : Str) | lst (l : List Dat) | tup (l : List Dat)
mutual
/-- v stands for d -/
def Dv (H : Hp) : Dat → V → Prop
  | .non, v => v = .non
  | .bl b, v => v = .bl b
  | .int i, v => v = .int i
  | .str s, v => v = .str s
  | .lst l, v => ∃ a xs, v = .ref a ∧ H a = some (.lst xs) ∧ Dvs H l xs
  | .tup l, v => ∃ a xs, v = .ref a ∧ H a = some (.tup xs) ∧ Dvs H l xs
def Dvs (H : Hp) : List Dat → List V → Prop
  | [], xs => xs = []
  | d :: l, xs => ∃ x r, xs = x :: r ∧ Dv H d x ∧ Dvs H l r
end
mutual
/-- how deep -/
def Dat.dp : Dat → Nat
  | .lst l => dps l + 1
  | .tup l => dps l + 1
  | _ => 0
def dps : List Dat → Nat
  | [] => 0
  | d :: l => max d.dp (dps l)
end
mutual
/-- no list, no tuple in it is longer than n -/
def Dat.fit (n : Nat) : Dat → Prop
  | .lst l => l.length ≤ n ∧ fits n l
  | .tup l => l.length ≤ n ∧ fits n l
  | _ => True
def fits (n : Nat) : List Dat → Prop
  | [] => True
  | d :: l => d.fit n ∧ fits n l
end
mutual
theorem Dv.same {H H' : Hp} (k : Same H H') : ∀ (d : Dat) {v : V}, Dv H d v → Dv H' d v
  | .non, _, h => by
    unfold Dv at *
    exact h
  | .bl b, _, h => by
    unfold Dv at *
    exact h
  | .int b, _, h => by
    unfold Dv at *
    exact h
  | .str b, _, h => by
    unfold Dv at *
    exact h
  | .lst l, v, h => by
    unfold Dv at *
    obtain ⟨a, xs, e, h, r⟩ := h
    exact ⟨a, xs, e, k _ _ h, Dvs.same k l r⟩
  | .tup l, v, h => by
    unfold Dv at *
    obtain ⟨a, xs, e, h, r⟩ := h
    exact ⟨a, xs, e, k _ _ h, Dvs.same k l r⟩
theorem Dvs.same {H H' : Hp} (k : Same H H') : ∀ (l : List Dat) {xs : List V}, Dvs H l xs → Dvs H' l xs
  | [], _, h => by
    unfold Dvs at *
    exact h
  | d :: l, xs, h => by
    unfold Dvs at *
    obtain ⟨x, r, e, h1, h2⟩ := h
    exact ⟨x, r, e, Dv.same k d h1, Dvs.same k l h2⟩
end
theorem Dvs.len {H : Hp} : ∀ {l : List Dat} {xs : List V}, Dvs H l xs → xs.length = l.length
  | [], xs, h => by
    unfold Dvs at h
    rw [h]
    rfl
  | d :: l, xs, h => by
    unfold Dvs at h
    obtain ⟨x, r, rfl, _, h2⟩ := h
    rw [List.length_cons, List.length_cons, h2.len]
mutual
/-- v stands for d, L: the lists that it is made of, as they come -/
def Ow (H : Hp) : Dat → V → List Addr → Prop
  | .non, v, L => v = .non ∧ L = []
  | .bl b, v, L => v = .bl b ∧ L = []
  | .int i, v, L => v = .int i ∧ L = []
  | .str s, v, L => v = .str s ∧ L = []
  | .lst l, v, L => ∃ a xs M, v = .ref a ∧ H a = some (.lst xs) ∧ L = a :: M ∧ Ows H l xs M
  | .tup l, v, L => ∃ a xs, v = .ref a ∧ H a = some (.tup xs) ∧ Ows H l xs L
def Ows (H : Hp) : List Dat → List V → List Addr → Prop
  | [], xs, L => xs = [] ∧ L = []
  | d :: l, xs, L => ∃ x r M N, xs = x :: r ∧ L = M ++ N ∧ Ow H d x M ∧ Ows H l r N
end
mutual
theorem Ow.dv {H : Hp} : ∀ (d : Dat) {v : V} {L : List Addr}, Ow H d v L → Dv H d v
  | .non, _, _, h => by
    unfold Ow at h
    unfold Dv
    exact h.1
  | .bl b, _, _, h => by
    unfold Ow at h
    unfold Dv
    exact h.1
  | .int b, _, _, h => by
    unfold Ow at h
    unfold Dv
    exact h.1
  | .str b, _, _, h => by
    unfold Ow at h
    unfold Dv
    exact h.1
  | .lst l, v, _, h => by
    unfold Ow at h
    unfold Dv
    obtain ⟨a, xs, M, e, h, _, r⟩ := h
    exact ⟨a, xs, e, h, Ows.dvs l r⟩
  | .tup l, v, _, h => by
    unfold Ow at h
    unfold Dv
    obtain ⟨a, xs, e, h, r⟩ := h
    exact ⟨a, xs, e, h, Ows.dvs l r⟩
theorem Ows.dvs {H : Hp} : ∀ (l : List Dat) {xs : List V} {L : List Addr}, Ows H l xs L → Dvs H l xs
  | [], _, _, h => by
    unfold Ows at h
    unfold Dvs
    exact h.1
  | d :: l, xs, _, h => by
    unfold Ows at h
    unfold Dvs
    obtain ⟨x, r, M, N, e, _, h1, h2⟩ := h
    exact ⟨x, r, e, Ow.dv d h1, Ows.dvs l h2⟩
end
/-- tuples stay, and the lists in L -/
def KpL (L : List Addr) (H H' : Hp) : Prop := (∀ b xs, H b = some (.tup xs) → H' b = some (.tup xs)) ∧ ∀ b ∈ L, ∀ xs, H b = some (.lst xs) → H' b = some (.lst xs)
theorem KpL.sub {L M : List Addr} {H H' : Hp} (k : KpL L H H') (h : ∀ b ∈ M, b ∈ L) : KpL M H H' := ⟨k.1, fun b hb => k.2 b (h b hb)⟩
mutual
theorem Ow.keep {H H' : Hp} : ∀ (d : Dat) {v : V} {L : List Addr}, KpL L H H' → Ow H d v L → Ow H' d v L
  | .non, _, _, _, h => by
    unfold Ow at *
    exact h
  | .bl b, _, _, _, h => by
    unfold Ow at *
    exact h
  | .int b, _, _, _, h => by
    unfold Ow at *
    exact h
  | .str b, _, _, _, h => by
    unfold Ow at *
    exact h
  | .lst l, v, L, k, h => by
    unfold Ow at *
    obtain ⟨a, xs, M, e, h, eL, r⟩ := h
    subst eL
    exact ⟨a, xs, M, e, k.2 a (List.mem_cons_self ..) _ h, rfl, Ows.keep l (k.sub fun b hb => List.mem_cons_of_mem _ hb) r⟩
  | .tup l, v, L, k, h => by
    unfold Ow at *
    obtain ⟨a, xs, e, h, r⟩ := h
    exact ⟨a, xs, e, k.1 _ _ h, Ows.keep l k r⟩
theorem Ows.keep {H H' : Hp} : ∀ (l : List Dat) {xs : List V} {L : List Addr}, KpL L H H' → Ows H l xs L → Ows H' l xs L
  | [], _, _, _, h => by
    unfold Ows at *
    exact h
  | d :: l, xs, L, k, h => by
    unfold Ows at *
    obtain ⟨x, r, M, N, e, eL, h1, h2⟩ := h
    subst eL
    exact ⟨x, r, M, N, e, rfl, Ow.keep d (k.sub fun b hb => List.mem_append_left _ hb) h1, Ows.keep l (k.sub fun b hb => List.mem_append_right _ hb) h2⟩
end
theorem Same.kpl {H H' : Hp} (k : Same H H') (L : List Addr) : KpL L H H' := ⟨fun b xs e => k b _ e, fun b _ xs e => k b _ e⟩
/-- something new: its lists are its own -/
def NewD (H : Hp) (d : Dat) (Q : VK) : Prop := ∀ (v : V) (H' : Hp) (L : List Addr), Same H H' → Ow H' d v L → L.Nodup → (∀ b ∈ L, H b = none) → Q v H'
/-- whole numbers, as a list of values -/
theorem dvs_ints {H : Hp} : ∀ (ns : List Int) {xs : List V}, Dvs H (ns.map Dat.int) xs ↔ xs = ns.map V.int
  | [], xs => by
    simp [Dvs]
  | n :: r, xs => by
    rw [List.map_cons, List.map_cons]
    unfold Dvs
    constructor
    · rintro ⟨x, t, rfl, h1, h2⟩
      unfold Dv at h1
      rw [h1, (dvs_ints r).mp h2]
    · rintro rfl
      exact ⟨_, _, rfl, by unfold Dv; rfl, (dvs_ints r).mpr rfl⟩
theorem ows_ints {H : Hp} : ∀ ns : List Int, Ows H (ns.map Dat.int) (ns.map V.int) []
  | [] => by
    simp [Ows]
  | n :: r => by
    rw [List.map_cons, List.map_cons]
    unfold Ows
    exact ⟨_, _, [], [], rfl, rfl, by unfold Ow; exact ⟨rfl, rfl⟩, ows_ints r⟩
/-- the i-th -/
theorem Dvs.at {H : Hp} : ∀ {l : List Dat} {xs : List V} {i : Nat} {x : V}, Dvs H l xs → xs[i]? = some x → ∃ d, l[i]? = some d ∧ Dv H d x
  | [], xs, i, x, h, e => by
    unfold Dvs at h
    rw [h] at e
    cases e
  | d :: l, xs, 0, x, h, e => by
    unfold Dvs at h
    obtain ⟨y, r, rfl, h1, h2⟩ := h
    cases e
    exact ⟨d, rfl, h1⟩
  | d :: l, xs, i + 1, x, h, e => by
    unfold Dvs at h
    obtain ⟨y, r, rfl, h1, h2⟩ := h
    exact Dvs.at (l := l) h2 e
theorem dp_at : ∀ {l : List Dat} {i : Nat} {d : Dat}, l[i]? = some d → d.dp ≤ dps l
  | d :: l, 0, e, h => by
    cases h
    rw [dps]
    exact Nat.le_max_left _ _
  | d :: l, i + 1, e, h => by
    rw [dps]
    exact Nat.le_trans (dp_at (l := l) h) (Nat.le_max_right _ _)
theorem fit_at {n : Nat} : ∀ {l : List Dat} {i : Nat} {d : Dat}, fits n l → l[i]? = some d → d.fit n
  | d :: l, 0, e, f, h => by
    cases h
    unfold fits at f
    exact f.1
  | d :: l, i + 1, e, f, h => by
    unfold fits at f
    exact fit_at (l := l) f.2 h
end N4
set_option Elab.async false
set_option linter.all false
set_option maxRecDepth 100000
set_option maxHeartbeats 4000000
/-! _law_same of equal data -/
namespace N4
open DL (StrAt same_new Df pe_df)
open PySem PySem.Spec PySem.W PyProof.Rows L2 LiI RZ
def spSame (n : Nat) : Sp := fun vs H Q _ => ∃ (v w : V) (d : Dat), vs = [v, w] ∧ Dv H d v ∧ Dv H d w ∧ d.dp ≤ n ∧ d.fit 1000 ∧ ∀ H', Same H H' → Q (.bl true) H'
theorem same_imp {n : Nat} {S : Sp} (hS : ∀ m, n = m + 1 → S = spSame m) {vs : List V} {H : Hp} {Q : VK} {E : XK} (h : spSame n vs H Q E) : spStep S vs H Q E := by
  obtain ⟨v, w, d, rfl, h1, h2, hd, hf, k⟩ := h
  refine ⟨v, w, rfl, k, ?_⟩
  have step : ∀ (l : List Dat) (xs ys : List V), dps l + 1 ≤ n → fits 1000 l → Dvs H l xs → Dvs H l ys → ∀ (i : Nat) (x y : V) (H' : Hp) (Q' : VK), xs[i]? = some x → ys[i]? = some y → Same H H' → (∀ H2, Same H' H2 → Q' (.bl true) H2) → S [x, y] H' Q' E0 := by
    intro l xs ys hd hf hx hy i x y H' Q' ex ey s q
    obtain ⟨m, rfl⟩ : ∃ m, n = m + 1 := ⟨n - 1, by omega⟩
    rw [hS m rfl]
    obtain ⟨d1, e1, r1⟩ := hx.at ex
    obtain ⟨d2, e2, r2⟩ := hy.at ey
    rw [e1] at e2
    cases e2
    exact ⟨x, y, d1, rfl, Dv.same s _ r1, Dv.same s _ r2, Nat.le_trans (dp_at e1) (by omega), fit_at hf e1, q⟩
  cases d with
  | non => unfold Dv at h1 h2; exact .inl ⟨by rw [h1, h2], by rw [h1]; rfl⟩
  | bl b => unfold Dv at h1 h2; exact .inl ⟨by rw [h1, h2], by rw [h1]; rfl⟩
  | int i => unfold Dv at h1 h2; exact .inl ⟨by rw [h1, h2], by rw [h1]; rfl⟩
  | str s => unfold Dv at h1 h2; exact .inl ⟨by rw [h1, h2], by rw [h1]; rfl⟩
  | lst l =>
    unfold Dv at h1 h2
    unfold Dat.dp at hd
    unfold Dat.fit at hf
    obtain ⟨a, xs, rfl, ha, hx⟩ := h1
    obtain ⟨b, ys, rfl, hb, hy⟩ := h2
    exact .inr (.inl ⟨a, b, xs, ys, rfl, rfl, .inl ⟨ha, hb⟩, by rw [hx.len, hy.len], by rw [hx.len]; exact hf.1, step l xs ys hd hf.2 hx hy⟩)
  | tup l =>
    unfold Dv at h1 h2
    unfold Dat.dp at hd
    unfold Dat.fit at hf
    obtain ⟨a, xs, rfl, ha, hx⟩ := h1
    obtain ⟨b, ys, rfl, hb, hy⟩ := h2
    exact .inr (.inl ⟨a, b, xs, ys, rfl, rfl, .inr ⟨ha, hb⟩, by rw [hx.len, hy.len], by rw [hx.len]; exact hf.1, step l xs ys hd hf.2 hx hy⟩)
section
variable {P : Program} {w : World} {K : PySem.W.Frag} {mg : Str → Option Value} {base : Heap}
theorem ok_same {f : Addr} {fd : FuncData} (F : Fun K "_law_same" "_law_same" sSame f fd) (mf : mg "_law_same" = some (.ref f)) (hb : Binds K fd ["found", "due"] [])
    (mi : mg "isinstance" = none) (ml : mg "list" = none) (mt : mg "tuple" = none) (mn : mg "len" = none) (ma : mg "all" = none) (mz : mg "zip" = none) (md : mg "dict" = none) (mb : mg "bool" = none) (mI : mg "int" = none) (ms : mg "str" = none) :
    ∀ n, FnOk P w K mg base CX0 (n + 2) f fd ["found", "due"] (spSame n)
  | 0 => (ok_step F ⟨f, fd, mf, F.kp, hb, ⟨fun _ _ _ _ h => h.elim, fun _ _ _ _ _ _ _ _ _ _ _ _ _ h => h.elim⟩⟩ mi ml mt mn ma mz md mb mI ms (S := fun _ _ _ _ => False) (k := 1)).imp fun vs H Q E h => same_imp (fun m e => by cases e) h
  | n + 1 => (ok_step F ⟨f, fd, mf, F.kp, hb, ok_same F mf hb mi ml mt mn ma mz md mb mI ms n⟩ mi ml mt mn ma mz md mb mI ms).imp fun vs H Q E h => same_imp (fun m e => by cases e; rfl) h
end
end N4
set_option Elab.async false
set_option linter.all false
set_option maxRecDepth 100000
set_option maxHeartbeats 4000000
/-! walks over a list or a tuple; _law_copied -/
namespace N4
open DL (StrAt same_new Df pe_df)
open PySem PySem.Spec PySem.W PyProof.Rows L2 LiI RZ
/-- a list or a tuple, walked -/
def iLT (K : Frag) (tl : TE) : TI := fun σ H R => tl σ H fun x H1 => ∃ (a : Addr) (xs : List V), x = .ref a ∧ ((SqL K H1 a xs ∧ R (Itl K a) H1) ∨ (SqT K H1 a xs ∧ R (Itt K a) H1))
theorem pi_lt {X : Cx} {tg l : Expr} {tl : TE} (hl : PE X l tl) : PI X tg l (iLT X.K tl) := by
  refine ⟨fun pins s σ H R I h => thn (hl.run pins s σ H _ I h) fun v s1 ⟨x, H1, I1, r1, q1⟩ => ?_⟩
  obtain ⟨a, xs, rfl, q1⟩ := q1
  cases r1
  have fresh : ∀ b ∈ [s1.heap.objs.size], FpOk X pins H1 b := fun b hb => by
    rw [List.mem_singleton.mp hb]
    exact I1.fpOk (Nat.le_refl _) (I1.hok.fresh (Nat.le_refl _))
  rcases q1 with ⟨hq, q⟩ | ⟨hq, q⟩
  · obtain ⟨its, rv, p, hz⟩ := I1.list hq
    exact wpAny_pyIter_list p.isList ⟨_, _, _, _, H1, rfl, I1.kept (t' := s1.toks) fun b o e => Heap.get?_push_of_some _ e, turn_list a _, ⟨_, Heap.get?_push_size _ rfl, rfl, rfl⟩, fresh, q⟩
  · obtain ⟨its, rv, p, hz⟩ := I1.tuple hq
    exact wpAny_pyIter_tuple (show s1.heap.IsTuple a its.toArray from p) ⟨_, _, _, _, H1, rfl, I1.kept (t' := s1.toks) fun b o e => Heap.get?_push_of_some _ e, turn_tuple a _, ⟨_, Heap.get?_push_size _ rfl, rfl, rfl⟩, fresh, q⟩
end N4
set_option Elab.async false
set_option linter.all false
set_option maxRecDepth 100000
set_option maxHeartbeats 4000000
/-! _law_copied, _law_spoilt -/
namespace N4
open DL (StrAt same_new Df pe_df)
open PySem PySem.Spec PySem.W PyProof.Rows L2 LiI RZ
def tyD : Dat → String
  | .non => "NoneType"
  | .bl _ => "bool"
  | .int _ => "int"
  | .str _ => "str"
  | .lst _ => "list"
  | .tup _ => "tuple"
theorem Dv.ty {K : Frag} {H : Hp} {d : Dat} {v : V} (h : Dv H d v) : TyX K H v (.type (tyD d)) := by
  cases d with
  | non => unfold Dv at h; subst h; exact .base .non
  | bl b => unfold Dv at h; subst h; exact .base (.bl b)
  | int i => unfold Dv at h; subst h; exact .base (.int i)
  | str s => unfold Dv at h; subst h; exact .base (.str s)
  | lst l => unfold Dv at h; obtain ⟨a, xs, rfl, h, _⟩ := h; exact .base (.lst h)
  | tup l => unfold Dv at h; obtain ⟨a, xs, rfl, h, _⟩ := h; exact .base (.tup h)
/-- isinstance(x, T) -/
def isD (d : Dat) (T : String) : Bool := match d, T with
  | .bl _, "bool" => true
  | .bl _, "int" => true
  | .int _, "int" => true
  | .str _, "str" => true
  | .lst _, "list" => true
  | .tup _, "tuple" => true
  | _, _ => false
theorem kit_isD {K : Frag} {d : Dat} {T : String} (hT : T ∈ ["bool", "int", "str", "list", "tuple", "dict"]) : kitOne K (.type (tyD d)) (.type T) = some (isD d T) := by
  simp only [List.mem_cons, List.not_mem_nil, or_false] at hT
  rcases hT with rfl | rfl | rfl | rfl | rfl | rfl <;> cases d <;> simp only [tyD, isD] <;> first | exact kt | exact kf
/-- isinstance(x, (list, tuple)) -/
def isLT : Dat → Bool
  | .lst _ => true
  | .tup _ => true
  | _ => false
theorem kit_isLT {K : Frag} {d : Dat} : kitAny K (.type (tyD d)) [.type "list", .type "tuple"] = some (isLT d) := by
  cases d <;> simp only [tyD, isLT] <;> first | exact kf2 | exact ktlst | exact kttup
theorem Ows.app {H : Hp} : ∀ {l1 l2 : List Dat} {xs1 xs2 : List V} {L1 L2 : List Addr}, Ows H l1 xs1 L1 → Ows H l2 xs2 L2 → Ows H (l1 ++ l2) (xs1 ++ xs2) (L1 ++ L2)
  | [], _, _, _, _, _, h1, h2 => by
    unfold Ows at h1
    obtain ⟨rfl, rfl⟩ := h1
    exact h2
  | d :: l, l2, _, xs2, _, M2, h1, h2 => by
    unfold Ows at h1
    obtain ⟨x, r, M, N, rfl, rfl, h, t⟩ := h1
    rw [List.cons_append]
    unfold Ows
    exact ⟨x, r ++ xs2, M, N ++ M2, rfl, by rw [List.append_assoc], h, t.app h2⟩
theorem Ows.one {H : Hp} {d : Dat} {v : V} {L : List Addr} (h : Ow H d v L) : Ows H [d] [v] L := by
  unfold Ows
  exact ⟨v, [], L, [], rfl, by rw [List.append_nil], h, by unfold Ows; exact ⟨rfl, rfl⟩⟩
mutual
theorem Ow.lists {H : Hp} : ∀ (d : Dat) {v : V} {L : List Addr}, Ow H d v L → ∀ b ∈ L, ∃ xs, H b = some (.lst xs)
  | .non, _, _, h => by unfold Ow at h; rw [h.2]; intro b hb; cases hb
  | .bl _, _, _, h => by unfold Ow at h; rw [h.2]; intro b hb; cases hb
  | .int _, _, _, h => by unfold Ow at h; rw [h.2]; intro b hb; cases hb
  | .str _, _, _, h => by unfold Ow at h; rw [h.2]; intro b hb; cases hb
  | .lst l, _, _, h => by
    unfold Ow at h
    obtain ⟨a, xs, M, rfl, h, rfl, r⟩ := h
    intro b hb
    rcases List.mem_cons.mp hb with e | e
    · rw [e]
      exact ⟨xs, h⟩
    · exact Ows.lists l r b e
  | .tup l, _, _, h => by
    unfold Ow at h
    obtain ⟨a, xs, rfl, h, r⟩ := h
    exact Ows.lists l r
theorem Ows.lists {H : Hp} : ∀ (l : List Dat) {xs : List V} {L : List Addr}, Ows H l xs L → ∀ b ∈ L, ∃ xs, H b = some (.lst xs)
  | [], _, _, h => by unfold Ows at h; rw [h.2]; intro b hb; cases hb
  | d :: l, _, _, h => by
    unfold Ows at h
    obtain ⟨x, r, M, N, rfl, rfl, h1, h2⟩ := h
    intro b hb
    rcases List.mem_append.mp hb with e | e
    · exact Ow.lists d h1 b e
    · exact Ows.lists l h2 b e
end
theorem Ow.flat {H : Hp} {d : Dat} {v : V} (h : Dv H d v) (f : isLT d = false) : Ow H d v [] := by
  cases d with
  | non => unfold Dv at h; unfold Ow; exact ⟨h, rfl⟩
  | bl b => unfold Dv at h; unfold Ow; exact ⟨h, rfl⟩
  | int i => unfold Dv at h; unfold Ow; exact ⟨h, rfl⟩
  | str s => unfold Dv at h; unfold Ow; exact ⟨h, rfl⟩
  | lst l => cases f
  | tup l => cases f
abbrev sCopied : Stmt := top 51
def spCopied (n : Nat) : Sp := fun vs H Q _ => ∃ (v : V) (d : Dat), vs = [v] ∧ Dv H d v ∧ d.dp ≤ n ∧ d.fit 1000 ∧ NewD H d Q
/-- its own calls keep S -/
def spCopiedS (S : Sp) : Sp := fun vs H Q _ => ∃ (v : V) (d : Dat), vs = [v] ∧ Dv H d v ∧ d.fit 1000 ∧ NewD H d Q ∧
  ∀ (l : List Dat), (d = .lst l ∨ d = .tup l) → ∀ (i : Nat) (x : V) (e : Dat) (H' : Hp) (Q' : VK), l[i]? = some e → Dv H' e x → Same H H' → NewD H' e Q' → S [x] H' Q' E0
/-- the part that is done: what D holds -/
structure CopAt (H1 : Hp) (D : Addr) (l : List Dat) (i : Nat) (H' : Hp) : Prop where
  ex : ∃ (acc : List V) (L : List Addr), Same H1 H' ∧ H' D = some (.lst acc) ∧ acc.length = i ∧ Ows H' (l.take i) acc L ∧ L.Nodup ∧ ∀ b ∈ L, H1 b = none ∧ b ≠ D
theorem CopAt.step {H1 : Hp} {D : Addr} {l : List Dat} {i : Nat} {H' H2 : Hp} {e : Dat} {v : V} {M : List Addr} (hD : H1 D = none) (C : CopAt H1 D l i H') (he : l[i]? = some e) (hS : Same H' H2) (ho : Ow H2 e v M) (nd : M.Nodup) (fr : ∀ b ∈ M, H' b = none) :
    ∃ acc, H2 D = some (.lst acc) ∧ acc.length = i ∧ CopAt H1 D l (i + 1) (upd H2 D (.lst (acc ++ [v]))) := by
  obtain ⟨acc, L, s1, hd, hlen, o, n, f⟩ := C.ex
  have hd2 := hS _ _ hd
  refine ⟨acc, hd2, hlen, ⟨acc ++ [v], L ++ M, fun b u q => ?_, upd_same, by rw [List.length_append, hlen]; rfl, ?_, ?_, ?_⟩⟩
  · rw [upd_ne (ne_of_none q hD)]
    exact hS _ _ (s1 _ _ q)
  · have et : l.take (i + 1) = l.take i ++ [e] := by rw [List.take_add_one, he]; rfl
    rw [et]
    have o2 := (o.keep _ (Same.kpl hS L)).app (Ows.one ho)
    refine o2.keep _ ⟨fun b xs q => ?_, fun b hb xs q => ?_⟩
    · rw [upd_ne (ne_of q hd2 (fun z => by cases z))]
      exact q
    · have nb : b ≠ D := by
        rcases List.mem_append.mp hb with h | h
        · exact (f b h).2
        · intro z
          have := fr b h
          rw [z, hd] at this
          cases this
      rw [upd_ne nb]
      exact q
  · refine List.nodup_append.mpr ⟨n, nd, fun a ha b hb z => ?_⟩
    obtain ⟨xs, hx⟩ := Ows.lists _ o a ha
    rw [z, fr b hb] at hx
    cases hx
  · intro b hb
    rcases List.mem_append.mp hb with h | h
    · exact f b h
    · refine ⟨?_, fun z => ?_⟩
      · cases q : H1 b with
        | none => rfl
        | some u =>
          have := s1 _ _ q
          rw [fr b h] at this
          cases this
      · have := fr b h
        rw [z, hd] at this
        cases this
theorem CopAt.zero {H1 : Hp} {D : Addr} {l : List Dat} (hD : H1 D = none) : CopAt H1 D l 0 (upd H1 D (.lst [])) :=
  ⟨[], [], same_new' hD _, upd_same, rfl, by unfold Ows; exact ⟨rfl, rfl⟩, List.nodup_nil, fun b hb => by cases hb⟩
theorem none_of {H H1 : Hp} {b : Addr} (k : Same H H1) (h : H1 b = none) : H b = none := by
  cases q : H b with
  | none => rfl
  | some u =>
    have := k _ _ q
    rw [h] at this
    cases this
theorem CopAt.lst {H H1 : Hp} {D : Addr} {l : List Dat} {H' : Hp} {Q : VK} (S : Same H H1) (hD : H1 D = none) (C : CopAt H1 D l l.length H') (k : NewD H (.lst l) Q) : Q (.ref D) H' := by
  obtain ⟨acc, L, s1, hd, _, o, n, f⟩ := C.ex
  rw [List.take_length] at o
  refine k (.ref D) H' (D :: L) (S.trans s1) (by unfold Ow; exact ⟨D, acc, L, rfl, hd, rfl, o⟩) (List.nodup_cons.mpr ⟨fun z => (f D z).2 rfl, n⟩) fun b hb => ?_
  rcases List.mem_cons.mp hb with e | e
  · rw [e]
    exact none_of S hD
  · exact none_of S (f b e).1
theorem CopAt.tup {H H1 : Hp} {D : Addr} {l : List Dat} {H' : Hp} {Q : VK} (S : Same H H1) (C : CopAt H1 D l l.length H') (k : NewD H (.tup l) Q) : ∃ acc, H' D = some (.lst acc) ∧ ∀ t, H' t = none → Q (.ref t) (upd H' t (.tup acc)) := by
  obtain ⟨acc, L, s1, hd, _, o, n, f⟩ := C.ex
  rw [List.take_length] at o
  refine ⟨acc, hd, fun t ht => ?_⟩
  have s2 := same_new' ht (.tup acc)
  exact k (.ref t) _ L ((S.trans s1).trans s2) (by unfold Ow; exact ⟨t, acc, rfl, upd_same, o.keep _ (Same.kpl s2 L)⟩) n fun b hb => none_of S (f b hb).1
end N4
set_option Elab.async false
set_option linter.all false
set_option maxRecDepth 100000
set_option maxHeartbeats 4000000
namespace N4
open DL (StrAt same_new Df pe_df)
open PySem PySem.Spec PySem.W PyProof.Rows L2 LiI RZ
section
variable {P : Program} {w : World} {K : PySem.W.Frag} {mg : Str → Option Value} {base : Heap}
theorem scCopied : FnScope ["thing", "some", "one"] ["thing"] (defScope sCopied) := ⟨rfl, rfl, rfl, by decide, rfl, by decide +kernel, by decide +kernel⟩
theorem ok_copiedS {f : Addr} {fd : FuncData} {k : Nat} {S : Sp} (F : Fun K "_law_copied" "_law_copied" sCopied f fd) (D : Df P w K mg base "_law_copied" k ["thing"] S)
    (mi : mg "isinstance" = none) (ml : mg "list" = none) (mt : mg "tuple" = none) (md : mg "dict" = none) : FnOk P w K mg base CX0 (k + 1) f fd ["thing"] (spCopiedS S) := by
  refine F.ok scCopied (fun vs H Q E h => by obtain ⟨v, d, rfl, _⟩ := h; rfl) fun cdv A outer s0 H vs Q E hr hsp => ?_
  obtain ⟨v, d, rfl, hv, hf, kq, hS⟩ := hsp
  refine ⟨_, pss_cons (ps_if (pt_val (pe_callB call_isi (by rfl) mi (by decide +kernel) (pa_cons (pv 0) (pa_cons (pe_bltn (v := .ty "dict") (by rfl) md (by decide +kernel) rfl) pa_nil)))) (pss_one ps_never) pss_nil)
    (pss_cons (ps_set (i := 1) scCopied.nd rfl (Or.inl rfl) (pe_ifExp (pt_val (pe_callB call_isiT (by rfl) mi (by decide +kernel) (pa_cons (pv 0) (pa_cons (pe_tup (pa_cons (pe_bltn (v := .ty "list") (by rfl) ml (by decide +kernel) rfl) (pa_cons (pe_bltn (v := .ty "tuple") (by rfl) mt (by decide +kernel) rfl) pa_nil))) pa_nil))))
      (pe_lc (own := [("one", 2)]) (g := gName 2) (tt := tYes) (te := tCall S [] E0 (tCons (tVar 2) tNil)) rfl scCopied.nd (pi_lt (pv 0)) (blkOk_by (own := [("one", 2)]) (N := ["thing", "some", "one"]) (sc := defScope sCopied) (by decide +kernel))
        (fun _ _ _ _ _ => pg_name (i := 2) scCopied.nd rfl (Or.inl rfl)) (fun _ _ _ _ _ => pts_nil) (fun _ _ _ _ _ => pe_df D hr (by rfl) (pa_cons (pv 2) pa_nil))) (pv 0)))
    (pss_one (ps_ret (pe_ifExp (pt_val (pe_callB call_isi (by rfl) mi (by decide +kernel) (pa_cons (pv 0) (pa_cons (pe_bltn (v := .ty "tuple") (by rfl) mt (by decide +kernel) rfl) pa_nil)))) (pe_callTy call_tuple_of (by rfl) mt (by decide +kernel) (pa_cons (pv 1) pa_nil)) (pv 1))))), ?_⟩
  have nd : isD d "dict" = false := by cases d <;> rfl
  refine ⟨_, rfl, _, _, _, _, _, rfl, .ty _, hv.ty, kit_isD (by decide +kernel), _, rfl, ?_⟩
  rw [nd]
  refine iteF ?_
  refine ⟨_, rfl, by show 2 ≤ sizeLine; decide, fun t ht => ?_⟩
  have S1 := same_new' ht (.tup [.ty "list", .ty "tuple"])
  have e1 : upd H t (.tup [.ty "list", .ty "tuple"]) t = some (.tup [.ty "list", .ty "tuple"]) := upd_same
  generalize upd H t (.tup [.ty "list", .ty "tuple"]) = H1 at S1 e1 ⊢
  have hv1 := Dv.same S1 d hv
  refine ⟨_, t, _, _, _, _, rfl, e1, .cons (.ty _) (.cons (.ty _) .nil), hv1.ty, kit_isLT, _, rfl, ?_⟩
  cases hd : isLT d with
  | false =>
    refine iteF ?_
    refine ⟨_, rfl, ?_⟩
    have nt : isD d "tuple" = false := by cases d <;> first | rfl | cases hd
    refine ⟨_, rfl, _, _, _, _, _, rfl, .ty _, hv1.ty, kit_isD (by decide +kernel), _, rfl, ?_⟩
    rw [nt]
    refine iteF ?_
    refine ⟨_, rfl, ?_⟩
    exact kq v H1 [] S1 (Ow.flat hv1 hd) List.nodup_nil (fun b hb => by cases hb)
  | true =>
    refine iteT ?_
    obtain ⟨a, xs, l, rfl, hl, ha, hx⟩ : ∃ (a : Addr) (xs : List V) (l : List Dat), v = .ref a ∧ (d = .lst l ∨ d = .tup l) ∧ ((d = .lst l ∧ H1 a = some (.lst xs)) ∨ (d = .tup l ∧ H1 a = some (.tup xs))) ∧ Dvs H1 l xs := by
      cases d with
      | lst l => unfold Dv at hv1; obtain ⟨a, xs, rfl, h1, h2⟩ := hv1; exact ⟨a, xs, l, rfl, .inl rfl, .inl ⟨rfl, h1⟩, h2⟩
      | tup l => unfold Dv at hv1; obtain ⟨a, xs, rfl, h1, h2⟩ := hv1; exact ⟨a, xs, l, rfl, .inr rfl, .inr ⟨rfl, h1⟩, h2⟩
      | _ => cases hd
    have hlen : xs.length ≤ 1000 := by
      rw [hx.len]
      rcases hl with rfl | rfl <;> unfold Dat.fit at hf <;> exact hf.1
    rcases ha with ⟨rfl, ha⟩ | ⟨rfl, ha⟩
    · refine ⟨_, rfl, a, xs, rfl, .inl ⟨SqL.of ha, fun R hR => ?_⟩⟩
      refine lc_list (xs := xs) (CopAt H1 R l) (CopAt.zero hR) (fun i H' _ C => by obtain ⟨acc, L, s1, _⟩ := C.ex; exact SqL.of (s1 _ _ ha)) ?_ ?_
      · intro i x H' ex C
        obtain ⟨e, ee, re⟩ := hx.at ex
        have s1 : Same H1 H' := by obtain ⟨acc, L, s1, _⟩ := C.ex; exact s1
        refine ⟨rfl, _, rfl, ?_⟩
        refine hS l hl i x e H' _ ee (Dv.same s1 _ re) (S1.trans s1) fun v H2 M s o n f => ?_
        obtain ⟨acc, h1, h2, h3⟩ := C.step hR ee s o n f
        refine ⟨acc, h1, ?_, h3⟩
        rw [h2]
        exact Nat.lt_of_lt_of_le (Nat.lt_of_lt_of_le (List.getElem?_eq_some_iff.mp ex).1 hlen) (by decide)
      · intro H' C
        rw [hx.len] at C
        have s1 : Same H1 H' := by obtain ⟨acc, L, s1, _⟩ := C.ex; exact s1
        have hv2 := Dv.same s1 _ hv1
        refine ⟨_, rfl, _, _, _, _, _, rfl, .ty _, hv2.ty, kit_isD (by decide +kernel), _, rfl, ?_⟩
        refine iteF ?_
        refine ⟨_, rfl, ?_⟩
        exact C.lst S1 hR kq
    · refine ⟨_, rfl, a, xs, rfl, .inr ⟨SqT.of ha, fun R hR => ?_⟩⟩
      refine lc_tup (xs := xs) (CopAt H1 R l) (CopAt.zero hR) (fun i H' _ C => by obtain ⟨acc, L, s1, _⟩ := C.ex; exact SqT.of (s1 _ _ ha)) ?_ ?_
      · intro i x H' ex C
        obtain ⟨e, ee, re⟩ := hx.at ex
        have s1 : Same H1 H' := by obtain ⟨acc, L, s1, _⟩ := C.ex; exact s1
        refine ⟨rfl, _, rfl, ?_⟩
        refine hS l hl i x e H' _ ee (Dv.same s1 _ re) (S1.trans s1) fun v H2 M s o n f => ?_
        obtain ⟨acc, h1, h2, h3⟩ := C.step hR ee s o n f
        refine ⟨acc, h1, ?_, h3⟩
        rw [h2]
        exact Nat.lt_of_lt_of_le (Nat.lt_of_lt_of_le (List.getElem?_eq_some_iff.mp ex).1 hlen) (by decide)
      · intro H' C
        rw [hx.len] at C
        have s1 : Same H1 H' := by obtain ⟨acc, L, s1, _⟩ := C.ex; exact s1
        have hv2 := Dv.same s1 _ hv1
        refine ⟨_, rfl, _, _, _, _, _, rfl, .ty _, hv2.ty, kit_isD (by decide +kernel), _, rfl, ?_⟩
        refine iteT ?_
        obtain ⟨acc, hacc, kt'⟩ := C.tup S1 kq
        exact ⟨_, rfl, R, acc, rfl, .inl ⟨SqL.of hacc, kt'⟩⟩
end
end N4
set_option Elab.async false
set_option linter.all false
set_option maxRecDepth 100000
set_option maxHeartbeats 4000000
/-! _law_copied by depth; _law_spoilt -/
namespace N4
open DL (StrAt same_new Df pe_df)
open PySem PySem.Spec PySem.W PyProof.Rows L2 LiI RZ
theorem copied_imp {n : Nat} {S : Sp} (hS : ∀ m, n = m + 1 → S = spCopied m) {vs : List V} {H : Hp} {Q : VK} {E : XK} (h : spCopied n vs H Q E) : spCopiedS S vs H Q E := by
  obtain ⟨v, d, rfl, hv, hd, hf, k⟩ := h
  refine ⟨v, d, rfl, hv, hf, k, fun l hl i x e H' Q' he hx s q => ?_⟩
  have hdl : dps l + 1 ≤ n := by rcases hl with rfl | rfl <;> exact hd
  have hfl : fits 1000 l := by rcases hl with rfl | rfl <;> unfold Dat.fit at hf <;> exact hf.2
  obtain ⟨m, rfl⟩ : ∃ m, n = m + 1 := ⟨n - 1, by omega⟩
  rw [hS m rfl]
  exact ⟨x, e, rfl, hx, Nat.le_trans (dp_at he) (by omega), fit_at hfl he, q⟩
mutual
/-- every list of it is one longer -/
def Dat.spoil : Dat → Dat
  | .lst l => .lst (spoils l ++ [.str "late"])
  | .tup l => .tup (spoils l)
  | .non => .non
  | .bl b => .bl b
  | .int i => .int i
  | .str s => .str s
def spoils : List Dat → List Dat
  | [] => []
  | d :: l => d.spoil :: spoils l
end
theorem spoils_app : ∀ l m : List Dat, spoils (l ++ m) = spoils l ++ spoils m
  | [], m => by simp [spoils]
  | d :: l, m => by simp [spoils, spoils_app l m]
theorem spoil_flat {d : Dat} (h : isLT d = false) : d.spoil = d := by cases d <;> first | rfl | cases h
abbrev sSpoilt : Stmt := top 50
/-- but for the lists in L, all stays -/
def OutL (L : List Addr) (H H' : Hp) : Prop := ∀ b o, H b = some o → b ∉ L → H' b = some o
def spSpoilt (n : Nat) : Sp := fun vs H Q _ => ∃ (v : V) (d : Dat) (L : List Addr), vs = [v] ∧ Ow H d v L ∧ L.Nodup ∧ d.dp ≤ n ∧ d.fit 900 ∧ ∀ H', Ow H' d.spoil v L → OutL L H H' → Q .non H'
def spSpoiltS (S : Sp) : Sp := fun vs H Q _ => ∃ (v : V) (d : Dat) (L : List Addr), vs = [v] ∧ Ow H d v L ∧ L.Nodup ∧ d.fit 900 ∧ (∀ H', Ow H' d.spoil v L → OutL L H H' → Q .non H') ∧
  ∀ (l : List Dat), (d = .lst l ∨ d = .tup l) → ∀ (i : Nat) (x : V) (e : Dat) (M : List Addr) (H' : Hp) (Q' : VK), l[i]? = some e → Ow H' e x M → M.Nodup → (∀ H2, Ow H2 e.spoil x M → OutL M H' H2 → Q' .non H2) → S [x] H' Q' E0
theorem OutL.refl {L : List Addr} {H : Hp} : OutL L H H := fun _ _ e _ => e
/-- what is spoilt so far -/
structure SpAt (H : Hp) (l : List Dat) (xs : List V) (M : List Addr) (i : Nat) (H' : Hp) : Prop where
  ex : ∃ L1 L2 : List Addr, M = L1 ++ L2 ∧ Ows H' (spoils (l.take i)) (xs.take i) L1 ∧ Ows H' (l.drop i) (xs.drop i) L2
  out : OutL M H H'
theorem SpAt.zero {H : Hp} {l : List Dat} {xs : List V} {M : List Addr} (h : Ows H l xs M) : SpAt H l xs M 0 H :=
  ⟨⟨[], M, rfl, by rw [List.take_zero, List.take_zero]; unfold spoils Ows; exact ⟨rfl, rfl⟩, by rw [List.drop_zero, List.drop_zero]; exact h⟩, OutL.refl⟩
theorem out_kpl {L M : List Addr} {H H' : Hp} (k : OutL M H H') (hM : ∀ b ∈ M, ∃ xs, H b = some (.lst xs)) (dis : ∀ b ∈ L, b ∉ M) : KpL L H H' :=
  ⟨fun b xs e => k b _ e fun hb => (by obtain ⟨ys, h⟩ := hM b hb; rw [e] at h; cases h), fun b hb xs e => k b _ e (dis b hb)⟩
theorem SpAt.step {H : Hp} {l : List Dat} {xs : List V} {M : List Addr} {i : Nat} {H' : Hp} {x : V} (C : SpAt H l xs M i H') (nd : M.Nodup) (hx : xs[i]? = some x) (hlen : xs.length = l.length) :
    ∃ (e : Dat) (Me : List Addr), l[i]? = some e ∧ Ow H' e x Me ∧ Me.Nodup ∧ ∀ H2, Ow H2 e.spoil x Me → OutL Me H' H2 → SpAt H l xs M (i + 1) H2 := by
  obtain ⟨L1, L2, rfl, o1, o2⟩ := C.ex
  have hi : i < xs.length := (List.getElem?_eq_some_iff.mp hx).1
  have hi2 : i < l.length := by omega
  have ex : xs.drop i = x :: xs.drop (i + 1) := by
    rw [List.drop_eq_getElem_cons hi]
    congr 1
    exact (List.getElem?_eq_some_iff.mp hx).2
  have el : l.drop i = l[i] :: l.drop (i + 1) := List.drop_eq_getElem_cons hi2
  rw [ex, el] at o2
  unfold Ows at o2
  obtain ⟨x', r', Me, N, e1, rfl, oe, orr⟩ := o2
  cases e1
  have nd2 := (List.nodup_append.mp nd).2.1
  refine ⟨l[i], Me, List.getElem?_eq_getElem hi2, oe, (List.nodup_append.mp nd2).1, fun H2 h2 k => ?_⟩
  have lM := Ow.lists _ oe
  have d1 : ∀ b ∈ L1, b ∉ Me := fun b hb hm => (List.nodup_append.mp nd).2.2 b hb b (List.mem_append_left _ hm) rfl
  have d2 : ∀ b ∈ N, b ∉ Me := fun b hb hm => (List.nodup_append.mp nd2).2.2 b hm b hb rfl
  refine ⟨⟨L1 ++ Me, N, by rw [List.append_assoc], ?_, orr.keep _ (out_kpl k lM d2)⟩, fun b o e hb => k b o (C.out b o e hb) fun hm => hb (List.mem_append_right _ (List.mem_append_left _ hm))⟩
  have et : l.take (i + 1) = l.take i ++ [l[i]] := by rw [List.take_add_one, List.getElem?_eq_getElem hi2]; rfl
  have ext : xs.take (i + 1) = xs.take i ++ [x] := by rw [List.take_add_one, hx]; rfl
  rw [et, ext, spoils_app]
  refine (o1.keep _ (out_kpl k lM d1)).app ?_
  show Ows H2 [(l[i]).spoil] [x] Me
  exact Ows.one h2
theorem SpAt.done {H : Hp} {l : List Dat} {xs : List V} {M : List Addr} {H' : Hp} (C : SpAt H l xs M xs.length H') (hlen : xs.length = l.length) : Ows H' (spoils l) xs M := by
  obtain ⟨L1, L2, rfl, o1, o2⟩ := C.ex
  rw [List.take_length, hlen, List.take_length] at o1
  rw [List.drop_length, hlen, List.drop_length] at o2
  unfold Ows at o2
  rw [o2.2, List.append_nil]
  exact o1
end N4
set_option Elab.async false
set_option linter.all false
set_option maxRecDepth 100000
set_option maxHeartbeats 4000000
namespace N4
open DL (StrAt same_new Df pe_df)
open PySem PySem.Spec PySem.W PyProof.Rows L2 LiI RZ
section
variable {P : Program} {w : World} {K : PySem.W.Frag} {mg : Str → Option Value} {base : Heap}
theorem ok_copied {f : Addr} {fd : FuncData} (F : Fun K "_law_copied" "_law_copied" sCopied f fd) (mf : mg "_law_copied" = some (.ref f)) (hb : Binds K fd ["thing"] []) (mi : mg "isinstance" = none) (ml : mg "list" = none) (mt : mg "tuple" = none) (md : mg "dict" = none) :
    ∀ n, FnOk P w K mg base CX0 (n + 2) f fd ["thing"] (spCopied n)
  | 0 => (ok_copiedS F ⟨f, fd, mf, F.kp, hb, ⟨fun _ _ _ _ h => h.elim, fun _ _ _ _ _ _ _ _ _ _ _ _ _ h => h.elim⟩⟩ mi ml mt md (S := fun _ _ _ _ => False) (k := 1)).imp fun vs H Q E h => copied_imp (fun m e => by cases e) h
  | n + 1 => (ok_copiedS F ⟨f, fd, mf, F.kp, hb, ok_copied F mf hb mi ml mt md n⟩ mi ml mt md).imp fun vs H Q E h => copied_imp (fun m e => by cases e; rfl) h
theorem scSpoilt : FnScope ["thing", "part"] ["thing"] (defScope sSpoilt) := ⟨rfl, rfl, rfl, by decide, rfl, by decide +kernel, by decide +kernel⟩
theorem Ow.ty {K : Frag} {H : Hp} {d : Dat} {v : V} {L : List Addr} (h : Ow H d v L) : TyX K H v (.type (tyD d)) := (Ow.dv _ h).ty
theorem ok_spoiltS {f : Addr} {fd : FuncData} {k : Nat} {S : Sp} (F : Fun K "_law_spoilt" "_law_spoilt" sSpoilt f fd) (D : Df P w K mg base "_law_spoilt" k ["thing"] S)
    (mi : mg "isinstance" = none) (ml : mg "list" = none) (mt : mg "tuple" = none) : FnOk P w K mg base CX0 (k + 1) f fd ["thing"] (spSpoiltS S) := by
  refine F.ok scSpoilt (fun vs H Q E h => by obtain ⟨v, d, L, rfl, _⟩ := h; rfl) fun cdv A outer s0 H vs Q E hr hsp => ?_
  obtain ⟨v, d, L, rfl, ho, nd, hf, kq, hS⟩ := hsp
  refine ⟨_, pss_cons (ps_if (pt_val (pe_callB call_isiT (by rfl) mi (by decide +kernel) (pa_cons (pv 0) (pa_cons (pe_tup (pa_cons (pe_bltn (v := .ty "list") (by rfl) ml (by decide +kernel) rfl) (pa_cons (pe_bltn (v := .ty "tuple") (by rfl) mt (by decide +kernel) rfl) pa_nil))) pa_nil))))
      (pss_one (ps_for PassesOwn.never rfl (pi_lt (pv 0)) (pg_name (i := 1) scSpoilt.nd rfl (Or.inl rfl)) (pss_one (ps_expr (pe_df D hr (by rfl) (pa_cons (pv 1) pa_nil)))))) pss_nil)
    (pss_one (ps_if (pt_val (pe_callB call_isi (by rfl) mi (by decide +kernel) (pa_cons (pv 0) (pa_cons (pe_bltn (v := .ty "list") (by rfl) ml (by decide +kernel) rfl) pa_nil))))
      (pss_one (ps_expr (pe_bm PySem.F.plainAttrs_list PySem.F.slot_list_append PySem.F.type_list_append mt_append (pv 0) (pa_cons pe_str pa_nil)))) pss_nil)), ?_⟩
  refine ⟨_, rfl, by show 2 ≤ sizeLine; decide, fun t ht => ?_⟩
  have S1 := same_new' ht (.tup [.ty "list", .ty "tuple"])
  have e1 : upd H t (.tup [.ty "list", .ty "tuple"]) t = some (.tup [.ty "list", .ty "tuple"]) := upd_same
  generalize upd H t (.tup [.ty "list", .ty "tuple"]) = H1 at S1 e1 ⊢
  have o1 := ho.keep _ (Same.kpl S1 L)
  refine ⟨_, t, _, _, _, _, rfl, e1, .cons (.ty _) (.cons (.ty _) .nil), o1.ty, kit_isLT, _, rfl, ?_⟩
  have kq1 : ∀ H', Ow H' d.spoil v L → OutL L H1 H' → Q .non H' := fun H' a b => kq H' a fun c o e n => b c o (S1 _ _ e) n
  cases hd : isLT d with
  | false =>
    refine iteF ?_
    have nt : isD d "list" = false := by cases d <;> first | rfl | cases hd
    refine ⟨_, rfl, _, _, _, _, _, rfl, .ty _, o1.ty, kit_isD (by decide +kernel), _, rfl, ?_⟩
    rw [nt]
    refine iteF ?_
    exact kq1 H1 (by rw [spoil_flat hd]; exact o1) OutL.refl
  | true =>
    refine iteT ?_
    cases d with
    | lst l =>
      have o1' := o1
      unfold Ow at o1'
      obtain ⟨a, xs, M, rfl, ha, rfl, ox⟩ := o1'
      have hlen : xs.length = l.length := (Ows.dvs _ ox).len
      have ndM := (List.nodup_cons.mp nd).2
      have aM := (List.nodup_cons.mp nd).1
      unfold Dat.fit at hf
      refine ⟨_, rfl, a, xs, rfl, .inl ⟨SqL.of ha, ?_⟩⟩
      refine for_list (xs := xs) (fun i σ H' => SpAt H1 l xs M i H' ∧ ∃ o, σ = [some (.ref a), o]) ⟨SpAt.zero ox, _, rfl⟩ (fun i σ H' _ p => SqL.of (p.1.out _ _ ha aM)) ?_ ?_
      · rintro i x σ H' hx ⟨C, o, rfl⟩
        obtain ⟨e, Me, he, oe, ne, k⟩ := C.step ndM hx hlen
        exact ⟨_, rfl, hS l (.inl rfl) i x e Me H' _ he oe ne fun H2 h2 k2 => ⟨k H2 h2 k2, _, rfl⟩⟩
      · rintro σ H' ⟨C, o, rfl⟩
        have ha' := C.out _ _ ha aM
        refine ⟨_, rfl, _, _, _, _, _, rfl, .ty _, .base (.lst ha'), kt, true, rfl, ?_⟩
        refine iteT ?_
        refine ⟨_, rfl, .inl ⟨rfl, _, SqL.of ha'⟩, a, xs, _, rfl, rfl, ha', Nat.lt_of_le_of_lt (by rw [hlen]; exact hf.1) (by decide), ?_⟩
        have od := C.done hlen
        refine kq1 _ ?_ fun b o e n => ?_
        · show Ow _ (.lst (spoils l ++ [.str "late"])) _ _
          unfold Ow
          refine ⟨a, _, M, rfl, upd_same, rfl, ?_⟩
          have o2 : Ows H' (spoils l ++ [.str "late"]) (xs ++ [.str "late"]) (M ++ []) := od.app (Ows.one (by unfold Ow; exact ⟨rfl, rfl⟩))
          rw [List.append_nil] at o2
          refine o2.keep _ ⟨fun b ys e => ?_, fun b hb ys e => ?_⟩
          · rw [upd_ne (ne_of e ha' (fun z => by cases z))]
            exact e
          · rw [upd_ne (fun z => aM (by rw [← z]; exact hb))]
            exact e
        · have nb : b ≠ a := fun z => n (by rw [z]; exact List.mem_cons_self ..)
          rw [upd_ne nb]
          exact C.out b o e fun hb => n (List.mem_cons_of_mem _ hb)
    | tup l =>
      have o1' := o1
      unfold Ow at o1'
      obtain ⟨a, xs, rfl, ha, ox⟩ := o1'
      have hlen : xs.length = l.length := (Ows.dvs _ ox).len
      have lL := Ows.lists _ ox
      have aL : a ∉ L := fun z => by
        obtain ⟨ys, h⟩ := lL a z
        rw [ha] at h
        cases h
      refine ⟨_, rfl, a, xs, rfl, .inr ⟨SqT.of ha, ?_⟩⟩
      refine for_tup (xs := xs) (fun i σ H' => SpAt H1 l xs L i H' ∧ ∃ o, σ = [some (.ref a), o]) ⟨SpAt.zero ox, _, rfl⟩ (fun i σ H' _ p => SqT.of (p.1.out _ _ ha aL)) ?_ ?_
      · rintro i x σ H' hx ⟨C, o, rfl⟩
        obtain ⟨e, Me, he, oe, ne, k⟩ := C.step nd hx hlen
        exact ⟨_, rfl, hS l (.inr rfl) i x e Me H' _ he oe ne fun H2 h2 k2 => ⟨k H2 h2 k2, _, rfl⟩⟩
      · rintro σ H' ⟨C, o, rfl⟩
        have ha' := C.out _ _ ha aL
        refine ⟨_, rfl, _, _, _, _, _, rfl, .ty _, .base (.tup ha'), kf, false, rfl, ?_⟩
        refine iteF ?_
        refine kq1 _ ?_ C.out
        show Ow _ (.tup (spoils l)) _ _
        unfold Ow
        exact ⟨a, xs, rfl, ha', C.done hlen⟩
    | _ => cases hd
theorem spoilt_imp {n : Nat} {S : Sp} (hS : ∀ m, n = m + 1 → S = spSpoilt m) {vs : List V} {H : Hp} {Q : VK} {E : XK} (h : spSpoilt n vs H Q E) : spSpoiltS S vs H Q E := by
  obtain ⟨v, d, L, rfl, ho, nd, hd, hf, k⟩ := h
  refine ⟨v, d, L, rfl, ho, nd, hf, k, fun l hl i x e M H' Q' he hx nm q => ?_⟩
  have hdl : dps l + 1 ≤ n := by rcases hl with rfl | rfl <;> exact hd
  have hfl : fits 900 l := by rcases hl with rfl | rfl <;> unfold Dat.fit at hf <;> exact hf.2
  obtain ⟨m, rfl⟩ : ∃ m, n = m + 1 := ⟨n - 1, by omega⟩
  rw [hS m rfl]
  exact ⟨x, e, M, rfl, hx, nm, Nat.le_trans (dp_at he) (by omega), fit_at hfl he, q⟩
theorem ok_spoilt {f : Addr} {fd : FuncData} (F : Fun K "_law_spoilt" "_law_spoilt" sSpoilt f fd) (mf : mg "_law_spoilt" = some (.ref f)) (hb : Binds K fd ["thing"] []) (mi : mg "isinstance" = none) (ml : mg "list" = none) (mt : mg "tuple" = none) :
    ∀ n, FnOk P w K mg base CX0 (n + 2) f fd ["thing"] (spSpoilt n)
  | 0 => (ok_spoiltS F ⟨f, fd, mf, F.kp, hb, ⟨fun _ _ _ _ h => h.elim, fun _ _ _ _ _ _ _ _ _ _ _ _ _ h => h.elim⟩⟩ mi ml mt (S := fun _ _ _ _ => False) (k := 1)).imp fun vs H Q E h => spoilt_imp (fun m e => by cases e) h
  | n + 1 => (ok_spoiltS F ⟨f, fd, mf, F.kp, hb, ok_spoilt F mf hb mi ml mt n⟩ mi ml mt).imp fun vs H Q E h => spoilt_imp (fun m e => by cases e; rfl) h
end
end N4
set_option Elab.async false
set_option linter.all false
set_option maxRecDepth 100000
set_option maxHeartbeats 4000000
/-! the heap without the stream; _law_loose -/
namespace N4
open DL (StrAt same_new Df pe_df)
open PySem PySem.Spec PySem.W PyProof.Rows L2 LiI RZ
/-- the heap without the stream and the tables -/
def Cr (st q : Addr) (H : Hp) : Hp := fun b => if b = st ∨ b = q then none else match H b with
  | some (.tbl _) => none
  | o => o
theorem Cr.le {st q : Addr} {H : Hp} : Same (Cr st q H) H := fun b o e => by
  unfold Cr at e
  split at e
  · cases e
  · split at e
    · cases e
    · exact e
theorem Cr.mk {st q b : Addr} {H : Hp} {o : HO} (h : H b = some o) (n : ∀ ps, o ≠ .tbl ps) (n1 : b ≠ st) (n2 : b ≠ q) : Cr st q H b = some o := by
  unfold Cr
  rw [if_neg (fun z => z.elim n1 n2), h]
  split
  · rename_i ps e
    exact absurd (Option.some.inj e) (n ps)
  · rfl
theorem Cr.un {st q b : Addr} {H : Hp} {o : HO} (h : Cr st q H b = some o) : H b = some o ∧ (∀ ps, o ≠ .tbl ps) ∧ b ≠ st ∧ b ≠ q := by
  have h0 := Cr.le _ _ h
  unfold Cr at h
  split at h
  · cases h
  · rename_i hn
    refine ⟨h0, fun ps z => ?_, fun z => hn (.inl z), fun z => hn (.inr z)⟩
    rw [h0, z] at h
    cases h
theorem Cr.but {st q : Addr} {H H' : Hp} (k : But st q H H') : Same (Cr st q H) (Cr st q H') := fun b o e => by
  obtain ⟨h, n, n1, n2⟩ := Cr.un e
  exact Cr.mk (k b o h n1 n2) n n1 n2

theorem Cr.same {st q : Addr} {H H' : Hp} (k : Same H H') : Same (Cr st q H) (Cr st q H') := Cr.but (But.same k)
mutual
/-- tuples as lists -/
def Dat.can : Dat → Dat
  | .lst l => .lst (cans l)
  | .tup l => .lst (cans l)
  | .non => .non
  | .bl b => .bl b
  | .int i => .int i
  | .str s => .str s
def cans : List Dat → List Dat
  | [] => []
  | d :: l => d.can :: cans l
end
theorem cans_app : ∀ l m : List Dat, cans (l ++ m) = cans l ++ cans m
  | [], m => by simp [cans]
  | d :: l, m => by simp [cans, cans_app l m]
mutual
def Dat.sz : Dat → Nat
  | .lst l => szs l + 1
  | .tup l => szs l + 1
  | _ => 1
def szs : List Dat → Nat
  | [] => 0
  | d :: l => d.sz + szs l
end
theorem szs_app : ∀ l m : List Dat, szs (l ++ m) = szs l + szs m
  | [], m => by simp [szs]
  | d :: l, m => by simp [szs, szs_app l m]; omega
theorem szs_take {l : List Dat} {i : Nat} {e : Dat} (h : l[i]? = some e) : szs (l.take i) + e.sz ≤ szs l := by
  have e1 : l.take (i + 1) = l.take i ++ [e] := by rw [List.take_add_one, h]; rfl
  have e2 := congrArg szs (List.take_append_drop (i + 1) l)
  rw [szs_app, e1, szs_app] at e2
  simp only [szs] at e2
  omega
theorem StrAt_same {st q : Addr} {n : Int} {H H' : Hp} (s : StrAt H st q n) (k : Same H H') : StrAt H' st q n := by
  obtain ⟨ns, a, c, h1, h2, r⟩ := s.ex
  exact ⟨ns, a, c, k _ _ h1, k _ _ h2, r⟩
theorem C_new {st q b : Addr} {n : Int} {H : Hp} (S : StrAt H st q n) (h : H b = none) : b ≠ st ∧ b ≠ q := by
  obtain ⟨ns, a, c, h1, h2, _⟩ := S.ex
  exact ⟨fun z => (by rw [z, h1] at h; cases h), fun z => (by rw [z, h2] at h; cases h)⟩
abbrev sLoose : Stmt := top 52
/-- the same with lists for tuples or the other way about, new -/
def LooseD (st q : Addr) (n : Int) (H : Hp) (d : Dat) (Q : VK) : Prop := ∀ (v : V) (e : Dat) (n' : Int) (H' : Hp) (L : List Addr), e.can = d.can → n ≤ n' → n' ≤ n + d.sz → StrAt H' st q n' → But st q H H' → Ow H' e v L → L.Nodup → (∀ b ∈ L, H b = none) → Q v H'
def spLoose (m : Nat) : Sp := fun vs H Q _ => ∃ (st q : Addr) (n : Int) (v : V) (d : Dat), vs = [.ref st, v] ∧ StrAt H st q n ∧ st ≠ q ∧ 0 ≤ n ∧ n + d.sz < 1000000 ∧ Dv (Cr st q H) d v ∧ d.dp ≤ m ∧ d.fit 1000 ∧ LooseD st q n H d Q
def spLooseS (S : Sp) : Sp := fun vs H Q _ => ∃ (st q : Addr) (n : Int) (v : V) (d : Dat), vs = [.ref st, v] ∧ StrAt H st q n ∧ st ≠ q ∧ 0 ≤ n ∧ n + d.sz < 1000000 ∧ Dv (Cr st q H) d v ∧ d.fit 1000 ∧ LooseD st q n H d Q ∧
  ∀ (l : List Dat), (d = .lst l ∨ d = .tup l) → ∀ (i : Nat) (x : V) (e : Dat) (n' : Int) (H' : Hp) (Q' : VK), l[i]? = some e → Dv (Cr st q H') e x → StrAt H' st q n' → 0 ≤ n' → n' + e.sz < 1000000 → LooseD st q n' H' e Q' → S [.ref st, x] H' Q' E0
structure LooAt (st q : Addr) (n : Int) (H1 : Hp) (D : Addr) (l : List Dat) (i : Nat) (H' : Hp) : Prop where
  ex : ∃ (acc : List V) (es : List Dat) (L : List Addr) (n' : Int), But st q H1 H' ∧ StrAt H' st q n' ∧ n ≤ n' ∧ n' ≤ n + szs (l.take i) ∧ H' D = some (.lst acc) ∧ acc.length = i ∧ cans es = cans (l.take i) ∧ Ows H' es acc L ∧ L.Nodup ∧ ∀ b ∈ L, H1 b = none ∧ b ≠ D
theorem but_kpl {st q : Addr} {L : List Addr} {H H' : Hp} {n : Int} (S : StrAt H st q n) (k : But st q H H') (h : ∀ b ∈ L, b ≠ st ∧ b ≠ q) : KpL L H H' := by
  obtain ⟨ns, a, c, h1, h2, _⟩ := S.ex
  exact ⟨fun b xs e => k b _ e (ne_of e h1 (fun z => by cases z)) (ne_of e h2 (fun z => by cases z)), fun b hb xs e => k b _ e (h b hb).1 (h b hb).2⟩
theorem LooAt.step {st q : Addr} {n : Int} {H1 : Hp} {D : Addr} {l : List Dat} {i : Nat} {H' H2 : Hp} {e e' : Dat} {v : V} {M : List Addr} {n' : Int} {acc : List V} {es : List Dat} {L : List Addr} (S1 : StrAt H1 st q n) (hD : H1 D = none)
    (k1 : But st q H1 H') (s1 : StrAt H' st q n') (b1 : n ≤ n') (b2 : n' ≤ n + szs (l.take i)) (hd : H' D = some (.lst acc)) (hlen : acc.length = i) (ec : cans es = cans (l.take i)) (o : Ows H' es acc L) (nd : L.Nodup) (f : ∀ b ∈ L, H1 b = none ∧ b ≠ D)
    (he : l[i]? = some e) {n2 : Int} (ce : e'.can = e.can) (b3 : n' ≤ n2) (b4 : n2 ≤ n' + e.sz) (s2 : StrAt H2 st q n2) (k2 : But st q H' H2) (ho : Ow H2 e' v M) (ndM : M.Nodup) (fr : ∀ b ∈ M, H' b = none) :
    H2 D = some (.lst acc) ∧ LooAt st q n H1 D l (i + 1) (upd H2 D (.lst (acc ++ [v]))) := by
  have nD := C_new S1 hD
  have hd2 := k2 _ _ hd nD.1 nD.2
  have et : l.take (i + 1) = l.take i ++ [e] := by rw [List.take_add_one, he]; rfl
  refine ⟨hd2, ⟨acc ++ [v], es ++ [e'], L ++ M, n2, fun b u q1 q2 q3 => ?_, ?_, by omega, ?_, upd_same, by rw [List.length_append, hlen]; rfl, ?_, ?_, ?_, ?_⟩⟩
  · rw [upd_ne (ne_of_none q1 hD)]
    exact k2 _ _ (k1 _ _ q1 q2 q3) q2 q3
  · exact s2.keep (upd_ne nD.1.symm) (upd_ne nD.2.symm)
  · rw [et, szs_app]
    simp only [szs]
    omega
  · rw [et, cans_app, cans_app, ec]
    simp only [cans]
    rw [ce]
  · have o2 := (o.keep _ (but_kpl s1 k2 fun b hb => C_new S1 (f b hb).1)).app (Ows.one ho)
    refine o2.keep _ ⟨fun b xs q => ?_, fun b hb xs q => ?_⟩
    · rw [upd_ne (ne_of q hd2 (fun z => by cases z))]
      exact q
    · have nb : b ≠ D := by
        rcases List.mem_append.mp hb with h | h
        · exact (f b h).2
        · intro z
          have := fr b h
          rw [z, hd] at this
          cases this
      rw [upd_ne nb]
      exact q
  · refine List.nodup_append.mpr ⟨nd, ndM, fun a ha b hb z => ?_⟩
    obtain ⟨xs, hx⟩ := Ows.lists _ o a ha
    rw [z, fr b hb] at hx
    cases hx
  · intro b hb
    rcases List.mem_append.mp hb with h | h
    · exact f b h
    · have hb' := fr b h
      have nst := C_new s1 hb'
      refine ⟨?_, fun z => ?_⟩
      · cases q1 : H1 b with
        | none => rfl
        | some u =>
          have := k1 _ _ q1 nst.1 nst.2
          rw [hb'] at this
          cases this
      · rw [z, hd] at hb'
        cases hb'
end N4
set_option Elab.async false
set_option linter.all false
set_option maxRecDepth 100000
set_option maxHeartbeats 4000000
namespace N4
open DL (StrAt same_new Df pe_df)
open PySem PySem.Spec PySem.W PyProof.Rows L2 LiI RZ
theorem but_none {st q b : Addr} {n : Int} {H H' : Hp} (s : StrAt H' st q n) (k : But st q H H') (h : H' b = none) : H b = none := by
  have z := C_new s h
  cases e : H b with
  | none => rfl
  | some u =>
    have := k _ _ e z.1 z.2
    rw [h] at this
    cases this
theorem LooAt.zero {st q : Addr} {n : Int} {H1 : Hp} {D : Addr} {l : List Dat} (S : StrAt H1 st q n) (hD : H1 D = none) : LooAt st q n H1 D l 0 (upd H1 D (.lst [])) :=
  ⟨[], [], [], n, But.same (same_new' hD _), StrAt_same S (same_new' hD _), Int.le_refl _, by rw [List.take_zero]; simp [szs], upd_same, rfl, by rw [List.take_zero], by unfold Ows; exact ⟨rfl, rfl⟩, List.nodup_nil, fun b hb => by cases hb⟩
section
variable {P : Program} {w : World} {K : PySem.W.Frag} {mg : Str → Option Value} {base : Heap}
theorem scLoose : FnScope ["stream", "thing", "some", "part"] ["stream", "thing"] (defScope sLoose) := ⟨rfl, rfl, rfl, by decide, rfl, by decide +kernel, by decide +kernel⟩
theorem ok_looseS {f : Addr} {fd : FuncData} {k : Nat} {S : Sp} (F : Fun K "_law_loose" "_law_loose" sLoose f fd) (D : Df P w K mg base "_law_loose" (k + 1) ["stream", "thing"] S) (DD : Df P w K mg base "_law_draw" 1 ["stream", "many"] spDraw)
    (mi : mg "isinstance" = none) (ml : mg "list" = none) (mt : mg "tuple" = none) : FnOk P w K mg base CX0 (k + 2) f fd ["stream", "thing"] (spLooseS S) := by
  refine F.ok scLoose (fun vs H Q E h => by obtain ⟨st, q, n, v, d, rfl, _⟩ := h; rfl) fun cdv A outer s0 H vs Q E hr hsp => ?_
  obtain ⟨st, q, n, v, d, rfl, hSt, nsq, hn0, hn1, hv, hf, kq, hS⟩ := hsp
  refine ⟨_, pss_cons (ps_if (pt_not (pt_val (pe_callB call_isiT (by rfl) mi (by decide +kernel) (pa_cons (pv 1) (pa_cons (pe_tup (pa_cons (pe_bltn (v := .ty "list") (by rfl) ml (by decide +kernel) rfl) (pa_cons (pe_bltn (v := .ty "tuple") (by rfl) mt (by decide +kernel) rfl) pa_nil))) pa_nil))))) (pss_one (ps_ret (pv 1))) pss_nil)
    (pss_cons (ps_setLc (i := 2) (own := [("part", 3)]) (g := gName 3) (tt := tYes) (te := tCall S [] E0 (tCons (tVar 0) (tCons (tVar 3) tNil))) rfl scLoose.nd rfl rfl (sw_true rfl rfl rfl (by decide +kernel)) (pi_lt (pv 1)) (blkOk_by (own := [("part", 3)]) (N := ["stream", "thing", "some", "part"]) (sc := defScope sLoose) (by decide +kernel))
        (fun _ _ _ _ _ => pg_name (i := 3) scLoose.nd rfl (Or.inl rfl)) (fun _ _ _ _ _ => pts_nil) (fun _ _ _ _ _ => pe_df D hr (by rfl) (pa_cons (pv 0) (pa_cons (pv 3) pa_nil))))
    (pss_one (ps_ret (pe_ifExp (pt_cmpR op_eq (pe_df DD (hr.mono (Nat.le_add_left 1 k)) (by rfl) (pa_cons (pv 0) (pa_cons pe_int pa_nil))) pe_int (nomark _)) (pe_callTy call_tuple_of (by rfl) mt (by decide +kernel) (pa_cons (pv 2) pa_nil)) (pv 2))))), ?_⟩
  refine ⟨_, rfl, by show 2 ≤ sizeLine; decide, fun t ht => ?_⟩
  have S1 := same_new' ht (.tup [.ty "list", .ty "tuple"])
  have e1 : upd H t (.tup [.ty "list", .ty "tuple"]) t = some (.tup [.ty "list", .ty "tuple"]) := upd_same
  generalize upd H t (.tup [.ty "list", .ty "tuple"]) = H1 at S1 e1 ⊢
  have hv1 := Dv.same (Cr.same (st := st) (q := q) S1) d hv
  have hw1 := Dv.same Cr.le d hv1
  have hSt1 := StrAt_same hSt S1
  refine ⟨_, t, _, _, _, _, rfl, e1, .cons (.ty _) (.cons (.ty _) .nil), hw1.ty, kit_isLT, _, rfl, ?_⟩
  cases hd : isLT d with
  | false =>
    refine iteT ?_
    refine ⟨_, rfl, ?_⟩
    exact kq v d n H1 [] rfl (Int.le_refl _) (by omega) hSt1 (But.same S1) (Ow.flat hw1 hd) List.nodup_nil (fun b hb => by cases hb)
  | true =>
    refine iteF ?_
    obtain ⟨a, xs, l, rfl, hl, ha, hx⟩ : ∃ (a : Addr) (xs : List V) (l : List Dat), v = .ref a ∧ (d = .lst l ∨ d = .tup l) ∧ ((d = .lst l ∧ Cr st q H1 a = some (.lst xs)) ∨ (d = .tup l ∧ Cr st q H1 a = some (.tup xs))) ∧ Dvs (Cr st q H1) l xs := by
      cases d with
      | lst l => unfold Dv at hv1; obtain ⟨a, xs, rfl, h1, h2⟩ := hv1; exact ⟨a, xs, l, rfl, .inl rfl, .inl ⟨rfl, h1⟩, h2⟩
      | tup l => unfold Dv at hv1; obtain ⟨a, xs, rfl, h1, h2⟩ := hv1; exact ⟨a, xs, l, rfl, .inr rfl, .inr ⟨rfl, h1⟩, h2⟩
      | _ => cases hd
    have hlen : xs.length ≤ 1000 := by
      rw [hx.len]
      rcases hl with rfl | rfl <;> unfold Dat.fit at hf <;> exact hf.1
    have hsz : n + szs l + 1 < 1000000 := by
      rcases hl with rfl | rfl <;> (rw [Dat.sz] at hn1; omega)
    have hcan : ∀ es, cans es = cans l → (Dat.lst es).can = d.can ∧ (Dat.tup es).can = d.can := fun es e => by
      rcases hl with rfl | rfl <;> simp only [Dat.can, e, and_self]
    have hdsz : d.sz = szs l + 1 := by rcases hl with rfl | rfl <;> rfl
    -- behind the comprehension
    have fin : ∀ (R : Addr) (H' : Hp), H1 R = none → LooAt st q n H1 R l l.length H' → tRet (tIf (tB (tOp rEq (tCall spDraw [] E0 (tCons (tVar 0) (tCons (tC (.int 2)) tNil))) (tC (.int 0)))) (tCB (fun xs H Q => ∃ p ys, xs = [.ref p] ∧ ((SqL K H p ys ∧ ∀ l, H l = none → Q (.ref l) (upd H l (.tup ys))) ∨ (SqT K H p ys ∧ Q (.ref p) H))) (tCons (tVar 2) tNil)) (tVar 2))
        { nx := fun _ H' => Q .non H', rt := Q } [some (.ref st), some (.ref a), some (.ref R), none] H' := by
      intro R H' hR C
      obtain ⟨acc, es, L, n', k1, s1, b1, b2, hd', hlen', ec, o, ndL, f⟩ := C.ex
      rw [List.take_length] at b2 ec
      have nR := C_new hSt1 hR
      refine ⟨_, rfl, st, q, n', 2, rfl, s1, nsq, by decide, by decide, by omega, by omega, fun g H2 _ _ s2 k2 => ?_⟩
      have k12 := (But.same S1).trans (k1.trans k2)
      have hd2 := k2 _ _ hd' nR.1 nR.2
      have oL := o.keep _ (but_kpl s1 k2 fun b hb => C_new hSt1 (f b hb).1)
      refine ⟨rfl, _, rfl, ?_⟩
      refine ite2 (fun _ => ?_) (fun _ => ?_)
      · refine ⟨_, rfl, R, acc, rfl, .inl ⟨SqL.of hd2, fun t2 ht2 => ?_⟩⟩
        have s3 := same_new' ht2 (.tup acc)
        refine kq (.ref t2) (.tup es) (n' + 1) _ L (hcan es ec).2 (by omega) (by omega) (StrAt_same s2 s3) (k12.trans (But.same s3)) ?_ ndL fun b hb => none_of S1 (f b hb).1
        unfold Ow
        exact ⟨t2, acc, rfl, upd_same, oL.keep _ (Same.kpl s3 L)⟩
      · refine ⟨_, rfl, ?_⟩
        refine kq (.ref R) (.lst es) (n' + 1) H2 (R :: L) (hcan es ec).1 (by omega) (by omega) s2 k12 ?_ (List.nodup_cons.mpr ⟨fun z => (f R z).2 rfl, ndL⟩) fun b hb => ?_
        · unfold Ow
          exact ⟨R, acc, L, rfl, hd2, rfl, oL⟩
        · rcases List.mem_cons.mp hb with e | e
          · rw [e]
            exact none_of S1 hR
          · exact none_of S1 (f b e).1
    rcases ha with ⟨hdl, ha⟩ | ⟨hdl, ha⟩
    · refine ⟨_, rfl, a, xs, rfl, .inl ⟨SqL.of (Cr.le _ _ ha), fun R hR => ?_⟩⟩
      have as := Cr.un ha
      refine lc_list (xs := xs) (LooAt st q n H1 R l) (LooAt.zero hSt1 hR) (fun i H' _ C => by obtain ⟨acc, es, L, n', k1, _⟩ := C.ex; exact SqL.of (k1 _ _ as.1 as.2.2.1 as.2.2.2)) ?_ ?_
      · intro i x H' ex C
        obtain ⟨e, ee, re⟩ := hx.at ex
        obtain ⟨acc, es, L, n', k1, s1, b1, b2, hd', hlen', ec, o, ndL, f⟩ := C.ex
        have bsz := szs_take ee
        refine ⟨rfl, _, rfl, _, rfl, ?_⟩
        refine hS l hl i x e n' H' _ ee (Dv.same (Cr.but k1) _ re) s1 (by omega) (by omega) fun v e' n2 H2 M ce b3 b4 s2 k2 ho nM fr => ?_
        obtain ⟨h1, h2⟩ := LooAt.step hSt1 hR k1 s1 b1 b2 hd' hlen' ec o ndL f ee ce b3 b4 s2 k2 ho nM fr
        refine ⟨acc, h1, ?_, h2⟩
        rw [hlen']
        exact Nat.lt_of_lt_of_le (Nat.lt_of_lt_of_le (List.getElem?_eq_some_iff.mp ex).1 hlen) (by decide)
      · intro H' C
        rw [hx.len] at C
        exact fin R H' hR C
    · refine ⟨_, rfl, a, xs, rfl, .inr ⟨SqT.of (Cr.le _ _ ha), fun R hR => ?_⟩⟩
      have as := Cr.un ha
      refine lc_tup (xs := xs) (LooAt st q n H1 R l) (LooAt.zero hSt1 hR) (fun i H' _ C => by obtain ⟨acc, es, L, n', k1, _⟩ := C.ex; exact SqT.of (k1 _ _ as.1 as.2.2.1 as.2.2.2)) ?_ ?_
      · intro i x H' ex C
        obtain ⟨e, ee, re⟩ := hx.at ex
        obtain ⟨acc, es, L, n', k1, s1, b1, b2, hd', hlen', ec, o, ndL, f⟩ := C.ex
        have bsz := szs_take ee
        refine ⟨rfl, _, rfl, _, rfl, ?_⟩
        refine hS l hl i x e n' H' _ ee (Dv.same (Cr.but k1) _ re) s1 (by omega) (by omega) fun v e' n2 H2 M ce b3 b4 s2 k2 ho nM fr => ?_
        obtain ⟨h1, h2⟩ := LooAt.step hSt1 hR k1 s1 b1 b2 hd' hlen' ec o ndL f ee ce b3 b4 s2 k2 ho nM fr
        refine ⟨acc, h1, ?_, h2⟩
        rw [hlen']
        exact Nat.lt_of_lt_of_le (Nat.lt_of_lt_of_le (List.getElem?_eq_some_iff.mp ex).1 hlen) (by decide)
      · intro H' C
        rw [hx.len] at C
        exact fin R H' hR C
end
end N4
set_option Elab.async false
set_option linter.all false
set_option maxRecDepth 100000
set_option maxHeartbeats 4000000
/-! _law_loose by depth; _law_mixed -/
namespace N4
open DL (StrAt same_new Df pe_df)
open PySem PySem.Spec PySem.W PyProof.Rows L2 LiI RZ
theorem loose_imp {m : Nat} {S : Sp} (hS : ∀ k, m = k + 1 → S = spLoose k) {vs : List V} {H : Hp} {Q : VK} {E : XK} (h : spLoose m vs H Q E) : spLooseS S vs H Q E := by
  obtain ⟨st, q, n, v, d, rfl, s, nsq, h0, h1, hv, hd, hf, k⟩ := h
  refine ⟨st, q, n, v, d, rfl, s, nsq, h0, h1, hv, hf, k, fun l hl i x e n' H' Q' he hx s' b0 b1 q' => ?_⟩
  have hdl : dps l + 1 ≤ m := by rcases hl with rfl | rfl <;> exact hd
  have hfl : fits 1000 l := by rcases hl with rfl | rfl <;> unfold Dat.fit at hf <;> exact hf.2
  obtain ⟨j, rfl⟩ : ∃ j, m = j + 1 := ⟨m - 1, by omega⟩
  rw [hS j rfl]
  exact ⟨st, q, n', x, e, rfl, s', nsq, b0, b1, hx, Nat.le_trans (dp_at he) (by omega), fit_at hfl he, q'⟩
abbrev sMixed : Stmt := top 48
/-- some things in another order, new -/
def spMixed : Sp := fun vs H Q _ => ∃ (st q a : Addr) (n : Int) (xs : List V), vs = [.ref st, .ref a] ∧ StrAt H st q n ∧ st ≠ q ∧ 0 ≤ n ∧ n + xs.length < 1000000 ∧ H a = some (.lst xs) ∧ xs.length ≤ 1000 ∧
  ∀ (b : Addr) (ys : List V) (H' : Hp), But st q H H' → StrAt H' st q (n + xs.length) → H b = none → H' b = some (.lst ys) → (∀ y ∈ ys, y ∈ xs) → Q (.ref b) H'
section
variable {P : Program} {w : World} {K : PySem.W.Frag} {mg : Str → Option Value} {base : Heap}
theorem ok_loose {f : Addr} {fd : FuncData} (F : Fun K "_law_loose" "_law_loose" sLoose f fd) (mf : mg "_law_loose" = some (.ref f)) (hb : Binds K fd ["stream", "thing"] []) (DD : Df P w K mg base "_law_draw" 1 ["stream", "many"] spDraw) (mi : mg "isinstance" = none) (ml : mg "list" = none) (mt : mg "tuple" = none) :
    ∀ n, FnOk P w K mg base CX0 (n + 2) f fd ["stream", "thing"] (spLoose n)
  | 0 => (ok_looseS F ⟨f, fd, mf, F.kp, hb, ⟨fun _ _ _ _ h => h.elim, fun _ _ _ _ _ _ _ _ _ _ _ _ _ h => h.elim⟩⟩ DD mi ml mt (S := fun _ _ _ _ => False) (k := 0)).imp fun vs H Q E h => loose_imp (fun m e => by cases e) h
  | n + 1 => (ok_looseS F ⟨f, fd, mf, F.kp, hb, ok_loose F mf hb DD mi ml mt n⟩ DD mi ml mt).imp fun vs H Q E h => loose_imp (fun m e => by cases e; rfl) h
theorem scMixed : FnScope ["stream", "things", "left", "found", "k"] ["stream", "things"] (defScope sMixed) := ⟨rfl, rfl, rfl, by decide, rfl, by decide +kernel, by decide +kernel⟩
theorem ok_mixed {f : Addr} {fd : FuncData} (F : Fun K "_law_mixed" "_law_mixed" sMixed f fd) (DD : Df P w K mg base "_law_draw" 1 ["stream", "many"] spDraw) (ml : mg "list" = none) (mr : mg "range" = none) (mn : mg "len" = none) : FnOk P w K mg base CX0 2 f fd ["stream", "things"] spMixed := by
  refine F.ok scMixed (fun vs H Q E h => by obtain ⟨st, q, a, n, xs, rfl, _⟩ := h; rfl) fun cdv A outer s0 H vs Q E hr hsp => ?_
  obtain ⟨st, q, a, n, xs, rfl, hSt, nsq, hn0, hn1, ha, hlen, kq⟩ := hsp
  refine ⟨_, pss_cons (ps_par (i := 2) (j := 3) (by rfl) scMixed.nd rfl rfl (by decide) rfl rfl (pa_cons (pe_callTy call_list_of (by rfl) ml (by decide +kernel) (pa_cons (pv 1) pa_nil)) (pa_cons (pe_lst pa_nil) pa_nil)) (by rfl))
    (pss_cons (ps_for PassesOwn.never rfl (pi_range1 (by rfl) mr (pa_cons (pe_callB call_len_seq (by rfl) mn (by decide +kernel) (pa_cons (pv 2) pa_nil)) pa_nil)) (pg_name (i := 4) scMixed.nd rfl (Or.inl rfl))
      (pss_one (ps_expr (pe_bm PySem.F.plainAttrs_list PySem.F.slot_list_append PySem.F.type_list_append mt_append (pv 3) (pa_cons
        (pe_bm PySem.F.plainAttrs_list PySem.F.slot_list_pop PySem.F.type_list_pop mt_popAt (pv 2) (pa_cons (pe_df DD hr (by rfl) (pa_cons (pv 0) (pa_cons (pe_callB call_len_seq (by rfl) mn (by decide +kernel) (pa_cons (pv 2) pa_nil)) pa_nil))) pa_nil)) pa_nil)))))
    (pss_one (ps_ret (pv 3)))), ?_⟩
  refine ⟨_, rfl, a, xs, rfl, .inl (SqL.of ha), fun b hb => ?_⟩
  have s1 := same_new' hb (.lst xs)
  refine ⟨by show 0 ≤ sizeLine; decide, fun c hc => ?_⟩
  have s2 := same_new' hc (.lst [])
  refine ⟨.ref b, .ref c, rfl, ?_⟩
  have hbc : c ≠ b := fun z => by rw [z, upd_same] at hc; cases hc
  have b1 : upd (upd H b (.lst xs)) c (.lst []) b = some (.lst xs) := s2 _ _ upd_same
  have c1 : upd (upd H b (.lst xs)) c (.lst []) c = some (.lst []) := upd_same
  have hcH : H c = none := by rwa [upd_ne hbc] at hc
  have S12 := s1.trans s2
  show tSeq _ _ _ [some (.ref st), some (.ref a), some (.ref b), some (.ref c), none] (upd (upd H b (.lst xs)) c (.lst []))
  generalize upd (upd H b (.lst xs)) c (.lst []) = H1 at b1 c1 S12 ⊢
  have nb := C_new hSt hb
  have nc := C_new hSt hcH
  refine ⟨_, rfl, b, xs, rfl, .inl (SqL.of b1), xs.length, rfl, by omega, by omega, ?_⟩
  rw [show ((xs.length : Int)).toNat = xs.length by simp]
  refine for_range (lo := 0) (n := xs.length) (fun i σ H' => But st q H H' ∧ StrAt H' st q (n + i) ∧ (∃ ls fs : List V, H' b = some (.lst ls) ∧ H' c = some (.lst fs) ∧ ls.length + i = xs.length ∧ fs.length = i ∧ (∀ y ∈ ls, y ∈ xs) ∧ ∀ y ∈ fs, y ∈ xs) ∧ ∃ o, σ = [some (.ref st), some (.ref a), some (.ref b), some (.ref c), o])
    ⟨But.same S12, by rw [show n + ((0 : Nat) : Int) = n by simp]; exact StrAt_same hSt S12, ⟨xs, [], b1, c1, rfl, rfl, fun y h => h, fun y h => by cases h⟩, _, rfl⟩ ?_ ?_
  · rintro i σ H2 hi ⟨k2, s2, ⟨ls, fs, hb2, hc2, l1, l2, m1, m2⟩, o, rfl⟩
    refine ⟨_, rfl, .inl ⟨rfl, _, SqL.of hc2⟩, ?_⟩
    refine ⟨_, rfl, .inl ⟨rfl, _, SqL.of hb2⟩, _, rfl, _, rfl, b, ls, rfl, .inl (SqL.of hb2), ?_⟩
    refine ⟨st, q, n + i, ls.length, rfl, s2, nsq, by omega, by omega, by omega, by omega, fun g H3 g0 g1 s3 k3 => ?_⟩
    have hb3 := k3 _ _ hb2 nb.1 nb.2
    have hc3 := k3 _ _ hc2 nc.1 nc.2
    obtain ⟨j, rfl⟩ := Int.eq_ofNat_of_zero_le g0
    have hj : j < ls.length := by omega
    refine ⟨b, ls, (j : Int), j, ls[j], rfl, rfl, hb3, by omega, by omega, (ixN_seq (show ixN ls.length (j : Int) = some j by unfold ixN; rw [if_pos (by omega), if_pos (by omega)]; simp)).1, List.getElem?_eq_getElem hj, ?_⟩
    have cb : c ≠ b := hbc
    have hc4 : upd H3 b (.lst (ls.eraseIdx j)) c = some (.lst fs) := by rw [upd_ne cb]; exact hc3
    refine ⟨c, fs, ls[j], rfl, rfl, hc4, Nat.lt_of_le_of_lt (by omega : fs.length ≤ 1000) (by decide), ?_⟩
    refine ⟨fun x u e n1 n2 => ?_, ?_, ⟨ls.eraseIdx j, fs ++ [ls[j]], ?_, upd_same, ?_, by rw [List.length_append, l2]; rfl, fun y hy => m1 y (List.mem_of_mem_eraseIdx hy), fun y hy => ?_⟩, _, rfl⟩
    · have e3 := k3 _ _ (k2 _ _ e n1 n2) n1 n2
      rw [upd_ne (ne_of_none e hcH), upd_ne (ne_of_none e hb)]
      exact e3
    · rw [show n + ((i + 1 : Nat) : Int) = n + i + 1 by omega]
      exact s3.keep (by rw [upd_ne nc.1.symm, upd_ne nb.1.symm]) (by rw [upd_ne nc.2.symm, upd_ne nb.2.symm])
    · rw [upd_ne cb.symm, upd_same]
    · rw [List.length_eraseIdx, if_pos hj]
      omega
    · rcases List.mem_append.mp hy with h | h
      · exact m2 y h
      · rw [List.mem_singleton.mp h]
        exact m1 _ (List.getElem_mem hj)
  · rintro σ H2 ⟨k2, s2, ⟨ls, fs, hb2, hc2, l1, l2, m1, m2⟩, o, rfl⟩
    exact ⟨_, rfl, kq c fs H2 k2 s2 hcH hc2 m2⟩
end
end N4
set_option Elab.async false
set_option linter.all false
set_option maxRecDepth 100000
set_option maxHeartbeats 4000000
/-! things that stand still through a call: put into the abstract heap ahead of it, taken out behind it -/
namespace N4
open DL (StrAt same_new Df pe_df)
open PySem PySem.Spec PySem.W PyProof.Rows L2 LiI RZ
def FrzP (o : Obj) : HO := .frz o (.ext fun _ => True)
def frzA (os : List (Addr × Obj)) (H : Hp) : Hp := fun b => match os.lookup b with
  | some o => some (FrzP o)
  | none => H b
def unF (os : List (Addr × Obj)) (H : Hp) : Hp := fun b => match os.lookup b with
  | some _ => none
  | none => H b
theorem frzA_in {os : List (Addr × Obj)} {H : Hp} {b : Addr} {o : Obj} (h : os.lookup b = some o) : frzA os H b = some (FrzP o) := by
  unfold frzA
  rw [h]
theorem frzA_out {os : List (Addr × Obj)} {H : Hp} {b : Addr} (h : os.lookup b = none) : frzA os H b = H b := by
  unfold frzA
  rw [h]
theorem unF_in {os : List (Addr × Obj)} {H : Hp} {b : Addr} {o : Obj} (h : os.lookup b = some o) : unF os H b = none := by
  unfold unF
  rw [h]
theorem unF_out {os : List (Addr × Obj)} {H : Hp} {b : Addr} (h : os.lookup b = none) : unF os H b = H b := by
  unfold unF
  rw [h]
theorem frzA_some {os : List (Addr × Obj)} {H : Hp} {b : Addr} {u : HO} (f : ∀ b o, os.lookup b = some o → H b = none) (h : H b = some u) : frzA os H b = some u := by
  cases e : os.lookup b with
  | none => rw [frzA_out e]; exact h
  | some o => rw [f b o e] at h; cases h
section
variable {P : Program} {w : World} {K : Frag} {mg : Str → Option Value} {base : Heap} {A : Around} {outer : List Env} {s s' : Shared} {H : Hp} {os : List (Addr × Obj)}
theorem env0_frz (e : Env0 P w K mg base A outer s H) (h : ∀ b o, os.lookup b = some o → s.heap.get? b = some o ∧ base.get? b = none ∧ b ∉ frs outer ∧ H b = none) : Env0 P w K mg base A outer s (frzA os H) := by
  have f : ∀ b o, os.lookup b = some o → H b = none := fun b o e => (h b o e).2.2.2
  refine ⟨e.frames, e.mod, fun b o q => ⟨(e.bs b o q).1, ?_⟩, e.bsz, e.funs, fun b hb => ?_, fun b u q => ?_, e.bare⟩
  · cases z : os.lookup b with
    | none => rw [frzA_out z]; exact (e.bs b o q).2
    | some o2 => rw [(h b o2 z).2.1] at q; cases q
  · cases z : os.lookup b with
    | none => rw [frzA_out z]; exact e.frf b hb
    | some o2 => exact absurd hb (h b o2 z).2.2.1
  · cases z : os.lookup b with
    | none =>
      rw [frzA_out z] at q
      exact (e.hok b u q).stay (fun c o _ x => x) (fun c x => frzA_some f x) fun c xs x => frzA_some f x
    | some o2 =>
      rw [frzA_in z] at q
      cases q
      have g := (h b o2 z).1
      exact ⟨g, True.intro, ⟨_, g⟩, fun _ _ _ _ => True.intro⟩
theorem ce_unF {Q : VK} {u : Value} (h : ∀ b o, os.lookup b = some o → s.heap.get? b = some o ∧ H b = none) (c : CE outer P w (frzA os H) s (fun v H' => Q v (unF os H')) u s') : CE outer P w H s Q u s' := by
  have f : ∀ b o, os.lookup b = some o → H b = none := fun b o e => (h b o e).2
  obtain ⟨v, H', c1, c2, un, hok, c3, c4⟩ := c
  have inn : ∀ b o, os.lookup b = some o → H' b = some (FrzP o) ∧ s'.heap.get? b = some o := fun b o e => by
    have z := un.frzs b o _ (frzA_in e)
    exact ⟨z, (hok b _ z).1⟩
  have out : ∀ b, os.lookup b = none → unF os H' b = H' b := fun b e => unF_out e
  refine ⟨v, unF os H', c1, c2, ⟨fun b o g n n1 n2 => ?_, fun b o g n n1 n2 => ?_, fun b o g n n2 => ?_, fun b o g n2 => un.there b o g n2, fun b xs g => ?_, fun b o u g => ?_, fun b ps g => ?_⟩, fun b x g => ?_, c3, c4⟩
  · cases z : os.lookup b with
    | none => exact un.keep b o g (by rw [frzA_out z]; exact n) n1 n2
    | some o2 =>
      have := (h b o2 z).1
      rw [g] at this
      cases this
      exact (inn b o z).2
  · cases z : os.lookup b with
    | none => exact un.slot b o g (by rw [frzA_out z]; exact n) n1 n2
    | some o2 =>
      have := (h b o2 z).1
      rw [g] at this
      cases this
      exact ⟨o.slots, (inn b o z).2⟩
  · cases z : os.lookup b with
    | none => rw [out b z]; exact un.free b o g (by rw [frzA_out z]; exact n) n2
    | some o2 => exact unF_in z
  · cases z : os.lookup b with
    | none => rw [out b z]; exact un.tups b xs (frzA_some f g)
    | some o2 => rw [f b o2 z] at g; cases g
  · cases z : os.lookup b with
    | none => rw [out b z]; exact un.frzs b o u (frzA_some f g)
    | some o2 => rw [f b o2 z] at g; cases g
  · cases z : os.lookup b with
    | none => rw [out b z]; exact un.tbls b ps (frzA_some f g)
    | some o2 => rw [f b o2 z] at g; cases g
  · cases z : os.lookup b with
    | some o2 => rw [unF_in z] at g; cases g
    | none =>
      rw [out b z] at g
      have keep : ∀ (c : Addr) (y : HO), (∀ o, y ≠ FrzP o) → H' c = some y → unF os H' c = some y := fun c y ny e => by
        cases zc : os.lookup c with
        | none => rw [out c zc]; exact e
        | some o3 =>
          rw [(inn c o3 zc).1] at e
          exact absurd (Option.some.inj e).symm (ny o3)
      exact (hok b x g).stay (fun c o _ q => q) (fun c q => keep c _ (fun o z => by unfold FrzP at z; cases z) q) fun c xs q => keep c _ (fun o z => by unfold FrzP at z; cases z) q
end
end N4
set_option Elab.async false
set_option linter.all false
set_option maxRecDepth 100000
set_option maxHeartbeats 4000000
/-! a lambda without parameters as a value, with what it captured; called -/
namespace N4
open DL (StrAt same_new Df pe_df)
open PySem PySem.Spec PySem.W PyProof.Rows L2 LiI RZ LamX
def lamA0 : Arguments := ⟨[], [], none, [], [], none, []⟩
/-- the lambda at a, its code object at c, what it captured -/
structure LamW where
  c : Addr
  q : Str
  body : Expr
  scope : Scope
  cl : List (Str × Addr)
def LamC (a : Addr) (L : LamW) : HO := .ext fun h => ∃ pm ctv : Value, h.get? a = some (kla_obj "<lambda>" L.q lamA0 L.body L.scope L.cl pm L.c ctv)
/-- its names: captured ones and globals -/
structure LamK (L : LamW) : Prop where
  kind : L.scope.kind = .function
  co : L.scope.isCoroutine = false
  gen : L.scope.isGenerator = false
  own : ∀ y ∈ L.scope.names, y.2 ≠ .local ∧ y.2 ≠ .cell
  has : ∀ y ∈ L.scope.names, y.2 = .free → ∃ c, L.cl.lookup y.1 = some c
  inj : ∀ x y c, L.cl.lookup x = some c → L.cl.lookup y = some c → x = y
/-- what stands in the captured cells: os their objects, vs the values of the names N -/
structure CapAt (H : Hp) (L : LamW) (N : List Str) (os : List (Addr × Obj)) (vs : List V) : Prop where
  frz : ∀ b o, os.lookup b = some o → H b = some (FrzP o)
  all : ∀ x c, L.cl.lookup x = some c → ∃ o v, os.lookup c = some o ∧ o.data = .cell v
  val : ∀ (i : Nat) (x : Str) (v : V), N[i]? = some x → vs[i]? = some v → ∃ c o u, L.cl.lookup x = some c ∧ os.lookup c = some o ∧ o.data = .cell (some u) ∧ RelV v u
  len : vs.length = N.length
abbrev lcEnv (L : LamW) (n f : Addr) : Env := envX L.q L.scope n f (.ref L.c) L.cl
def lcCx (P : Program) (w : World) (K : Frag) (mg : Str → Option Value) (base : Heap) (A : Around) (outer : List Env) (s : Shared) (H : Hp) (N : List Str) (L : LamW) (f : Addr) : Cx where
  prog := P
  w := w
  K := K
  mg := mg
  base := base
  A := A.deeper (lcEnv L s.heap.objs.size f)
  N := N
  s_0 := s
  H_0 := H
  env := lcEnv L s.heap.objs.size f
  outer := outer
  stack := lcEnv L s.heap.objs.size f :: outer
  ex := []
  fn := fun _ => false
  calm := true
  pn := []
  xe := fun e s' => wpAny (model P w) (A.deeper (lcEnv L s.heap.objs.size f)) (leaving (lcEnv L s.heap.objs.size f) e) (fun _ s'' => CX0 outer H s E0 e s'') (fun e' s'' => CX0 outer H s E0 e' s'') s'
section
variable {P : Program} {w : World} {K : Frag} {mg : Str → Option Value} {base : Heap} {A : Around} {outer : List Env} {s : Shared} {H : Hp}
theorem env0_unF {os : List (Addr × Obj)} (e : Env0 P w K mg base A outer s H) (h : ∀ b o, os.lookup b = some o → H b = some (FrzP o)) : Env0 P w K mg base A outer s (unF os H) := by
  refine ⟨e.frames, e.mod, fun b o q => ⟨(e.bs b o q).1, ?_⟩, e.bsz, e.funs, fun b hb => ?_, fun b u q => ?_, e.bare⟩
  · cases z : os.lookup b with
    | none => rw [unF_out z]; exact (e.bs b o q).2
    | some o2 => exact unF_in z
  · cases z : os.lookup b with
    | none => rw [unF_out z]; exact e.frf b hb
    | some o2 => exact unF_in z
  · cases z : os.lookup b with
    | some o2 => rw [unF_in z] at q; cases q
    | none =>
      rw [unF_out z] at q
      have keep : ∀ (c : Addr) (y : HO), (∀ o, y ≠ FrzP o) → H c = some y → unF os H c = some y := fun c y ny e' => by
        cases zc : os.lookup c with
        | none => rw [unF_out zc]; exact e'
        | some o3 =>
          rw [h c o3 zc] at e'
          exact absurd (Option.some.inj e').symm (ny o3)
      exact (e.hok b u q).stay (fun c o _ x => x) (fun c x => keep c _ (fun o z => by unfold FrzP at z; cases z) x) fun c xs x => keep c _ (fun o z => by unfold FrzP at z; cases z) x
theorem lc_start {N : List Str} {L : LamW} {f : Addr} {os : List (Addr × Obj)} {vs : List V} {h₁ : Heap} {tk : Nat} (LK : LamK L) (e0 : Env0 P w K mg base A outer s H) (hd : A.handled = none) (C : CapAt H L N os vs)
    (hns : h₁.Ns s.heap.objs.size fun y => ([] : List (Str × Value)).reverse.lookup y) (kp : ∀ b o, s.heap.get? b = some o → h₁.get? b = some o) :
    Inv (lcCx P w K mg base A outer s (unF os H) N L f) [] (vs.map some) (unF os H) { s with heap := h₁, toks := tk } := by
  have e1 := env0_unF e0 C.frz
  have objs : ∀ b o, os.lookup b = some o → s.heap.get? b = some o := fun b o e => (e0.hok b _ (C.frz b o e)).1
  have noA : ∀ b : Addr, b ∉ (lcCx P w K mg base A outer s (unF os H) N L f).ex := fun b z => absurd (show b ∈ ([] : List Addr) from z) (by simp)
  refine ⟨⟨e1.mod, LK.kind, rfl, rfl, Nat.le_refl _, LK.inj, fun y hy => ?_, fun y c z _ => ?_, fun _ => hd, Around.frames_deeper e1.frames, .inr ⟨rfl, rfl⟩, fun b z => absurd z (noA b), e1.bs, e1.bsz, fun b _ _ => noA b,
      fun b z => absurd z (noA b), e1.funs, e1.frf⟩,
    rfl, e1.bare, Un.kept kp, ⟨_, hns, fun i y v e1' e2 e3 => ?_⟩, fun y c e => ?_, e1.hok.fresh (Nat.le_refl _), fun y c e => ?_, fun q hq => absurd (show q ∈ ([] : List (Addr × Obj)) ++ [] from hq) (by simp), e1.hok.kept kp, ?_⟩
  · have hy : L.scope.names.lookup y = some .cell ∨ L.scope.names.lookup y = some .free := hy
    rcases hy with hy | hy
    · exact absurd rfl (LK.own _ (PySem.mem_of_lookup hy)).2
    · exact LK.has _ (PySem.mem_of_lookup hy) rfl
  · have z : false = true := z
    cases z
  · have e3 : Vis L.scope y := e3
    have hv : vs[i]? = some v := by
      rw [List.getElem?_map] at e2
      cases q : vs[i]? with
      | none => rw [q] at e2; cases e2
      | some a => rw [q] at e2; cases e2; rfl
    obtain ⟨c, o, u, hc, ho, hdt, r⟩ := C.val i y v e1' hv
    refine ⟨u, r, .inr ⟨?_, c, hc, o, kp _ _ (objs c o ho), hdt⟩⟩
    rcases e3 with k | k | k
    · exact absurd rfl (LK.own _ (PySem.mem_of_lookup k)).1
    · exact .inl k
    · exact .inr k
  · obtain ⟨o, v, ho, hdt⟩ := C.all y c e
    exact ⟨v, o, kp _ _ (objs c o ho), hdt⟩
  · obtain ⟨o, v, ho, hdt⟩ := C.all y c e
    exact unF_in ho
  · show (vs.map some).length = N.length
    rw [List.length_map]
    exact C.len
end
end N4
set_option Elab.async false
set_option linter.all false
set_option maxRecDepth 100000
set_option maxHeartbeats 4000000
namespace N4
open DL (StrAt same_new Df pe_df)
open PySem PySem.Spec PySem.W PyProof.Rows L2 LiI RZ LamX
section
variable {P : Program} {w : World} {K : Frag} {mg : Str → Option Value} {base : Heap} {outer : List Env} {s s' : Shared} {H : Hp} {os : List (Addr × Obj)}
/-- behind a body that ran without the things in os -/
theorem ce_frz {Q : VK} {u : Value} (hok : HOk P w H s.heap) (frf : ∀ b ∈ frs outer, H b = none) (h : ∀ b o, os.lookup b = some o → H b = some (FrzP o)) (c : CE outer P w (unF os H) s (fun v H' => (∀ b o, os.lookup b = some o → H' b = none) → Q v (frzA os H')) u s') : CE outer P w H s Q u s' := by
  obtain ⟨v, H', c1, c2, un, ok', c3, c4⟩ := c
  have obj : ∀ b o, os.lookup b = some o → s.heap.get? b = some o := fun b o e => (hok b _ (h b o e)).1
  have nfr : ∀ b o, os.lookup b = some o → b ∉ frs outer := fun b o e z => by
    have := frf b z
    rw [h b o e] at this
    cases this
  have kept : ∀ b o, os.lookup b = some o → s'.heap.get? b = some o ∧ H' b = none := fun b o e => ⟨un.keep b o (obj b o e) (unF_in e) (nfr b o e) (by simp), un.free b o (obj b o e) (unF_in e) (by simp)⟩
  have nos : ∀ b, (∀ o, H b ≠ some (FrzP o)) → os.lookup b = none := fun b n => by
    cases z : os.lookup b with
    | none => rfl
    | some o => exact absurd (h b o z) (n o)
  have l0 : ∀ b, H b = none → os.lookup b = none := fun b n => nos b fun o z => by rw [n] at z; cases z
  have c4 := c4 fun b o e => (kept b o e).2
  refine ⟨v, frzA os H', c1, c2, ⟨fun b o g n n1 n2 => ?_, fun b o g n n1 n2 => ?_, fun b o g n n2 => ?_, fun b o g n2 => un.there b o g n2, fun b xs g => ?_, fun b o u g => ?_, fun b ps g => ?_⟩, fun b x g => ?_, c3, c4⟩
  · exact un.keep b o g (by rw [unF_out (l0 b n)]; exact n) n1 n2
  · exact un.slot b o g (by rw [unF_out (l0 b n)]; exact n) n1 n2
  · rw [frzA_out (l0 b n)]
    exact un.free b o g (by rw [unF_out (l0 b n)]; exact n) n2
  · have l := nos b fun o z => by rw [g] at z; unfold FrzP at z; cases z
    rw [frzA_out l]
    exact un.tups b xs (by rw [unF_out l]; exact g)
  · cases z : os.lookup b with
    | none => rw [frzA_out z]; exact un.frzs b o u (by rw [unF_out z]; exact g)
    | some o2 =>
      rw [frzA_in z]
      rw [h b o2 z] at g
      exact g
  · have l := nos b fun o z => by rw [g] at z; unfold FrzP at z; cases z
    rw [frzA_out l]
    exact un.tbls b ps (by rw [unF_out l]; exact g)
  · have keep : ∀ (c : Addr) (y : HO), H' c = some y → frzA os H' c = some y := fun c y e => by
      cases zc : os.lookup c with
      | none => rw [frzA_out zc]; exact e
      | some o3 => rw [(kept c o3 zc).2] at e; cases e
    cases z : os.lookup b with
    | some o2 =>
      rw [frzA_in z] at g
      cases g
      have q := (kept b o2 z).1
      exact ⟨q, True.intro, ⟨_, q⟩, fun _ _ _ _ => True.intro⟩
    | none =>
      rw [frzA_out z] at g
      exact (ok' b x g).stay (fun c o _ q => q) (fun c q => keep c _ q) fun c xs q => keep c _ q
end
/-- what calling f, without arguments, does -/
def CallsAs (P : Program) (w : World) (K : Frag) (mg : Str → Option Value) (base : Heap) (k : Nat) (f : Addr) (B : Hp → VK → Prop) : Prop :=
  (∀ (A : Around) (outer : List Env) (s : Shared) (H : Hp) (Q : VK), Room k A → Env0 P w K mg base A outer s H → B H Q → codeAny (model P w) A (.call (.ref f) ⟨[], []⟩) (CR CX0 outer P w H s Q E0) s) ∧
  ∀ (s : Shared) (H : Hp) (Q : VK), HOk P w H s.heap → B H Q → FnAt f s.heap
/-- a lambda's -/
def spLamC (P : Program) (w : World) (K : Frag) (mg : Str → Option Value) (base : Heap) (k : Nat) (f : Addr) (L : LamW) (N : List Str) : Hp → VK → Prop := fun H Q => H f = some (LamC f L) ∧ H L.c = some (CodeO L.c L.q) ∧ ∃ (os : List (Addr × Obj)) (vs : List V) (tb : TE), CapAt H L N os vs ∧
  (∀ (A : Around) (outer : List Env) (s : Shared) (H : Hp), Room k (A.deeper (lcEnv L s.heap.objs.size f)) → PE (lcCx P w K mg base A outer s H N L f) L.body tb) ∧ tb (vs.map some) (unF os H) fun v H2 => (∀ b o, os.lookup b = some o → H2 b = none) → Q v (frzA os H2)
theorem lam_calls {P : Program} {w : World} {K : Frag} {mg : Str → Option Value} {base : Heap} {k : Nat} {f : Addr} {L : LamW} {N : List Str} (LK : LamK L) : CallsAs P w K mg base (k + 1) f (spLamC P w K mg base k f L N) := by
  refine ⟨fun A outer s H Q hr e0 hB => ?_, fun s H Q hok hB => ?_⟩
  · obtain ⟨hf, hc, os, vs, tb, C, hb, ht⟩ := hB
    obtain ⟨⟨pm, ctv, o1⟩, _, _⟩ := e0.hok f _ hf
    obtain ⟨⟨oc, cvs, t, hoc, hdc, hvc⟩, _, _⟩ := e0.hok L.c _ hc
    have lim : s.heap.NoLimit := e0.mod.nolimit.keeps fun b o e => (e0.bs b o e).1
    refine kla_callFunE hr.depth o1 rfl LK.co LK.gen rfl ⟨L.c, oc, cvs, t, rfl, hoc, hdc, hvc⟩ ?_
    rw [show bindArgs (kla_fn "<lambda>" L.q lamA0 L.body L.scope L.cl pm (.ref L.c) ctv) ⟨[], []⟩ = (pure [] : Sem (List (Str × Value))) from rfl]
    refine wpAny_pure (wpAny_newFunctionEnv (fun y hy => (LK.own y hy).2) (fun y hy => absurd hy (by simp)) (fun h₁ hns hsb => ⟨lim.fresh _ hsb, ?_⟩) LK.kind)
    show codeAny _ _ (.expr L.body (lcEnv L s.heap.objs.size f)) _ _
    have kp : ∀ b o, s.heap.get? b = some o → h₁.get? b = some o := fun b o e => hsb.extBut b o (Nat.ne_of_lt (Heap.lt_size e)) (Heap.get?_push_of_some _ e)
    have J := lc_start (f := f) (tk := s.toks + ([] : List (Str × Value)).length) LK e0 hr.hd C hns kp
    refine kla_codeExpr (wpAny_mono ((hb A outer s (unF os H) (hr.deeper _)).run [] _ _ _ _ J ht) (fun v s' hq => ?_) fun e s' hq => ?_)
    · obtain ⟨w', H', J', rv, q⟩ := hq
      exact ce_frz e0.hok e0.frf C.frz ⟨w', H', J'.os, J'.bare, J'.base, J'.hok, rv, q⟩
    · exact wpAny_mono hq (fun _ _ z => z.elim) fun _ _ z => z.elim
  · obtain ⟨hf, _⟩ := hB
    obtain ⟨⟨pm, ctv, o1⟩, _, _⟩ := hok f _ hf
    exact ⟨_, _, _, _, o1⟩
/-- x(), x a slot that holds a thing of this kind -/
def tCallV (P : Program) (w : World) (K : Frag) (mg : Str → Option Value) (base : Heap) (k i : Nat) : TE := fun σ H Q => ∃ (f : Addr) (B : Hp → VK → Prop), σ[i]? = some (some (.ref f)) ∧ CallsAs P w K mg base k f B ∧ B H Q
theorem pe_callV {X : Cx} {i k : Nat} {x : Str} {p pos : Pos} (hr : Room k X.A) (hx : Passes CX0 X E0) (hN : X.N[i]? = some x) (hv : Vis X.env.scope x) (hd : (x == ("__debug__" : Str)) = false := by decide) (hcd : (x == ("__classdict__" : Str)) = false := by decide) :
    PE X (.Call (.Name x p) [] [] pos) (tCallV X.prog X.w X.K X.mg X.base k i) := by
  refine ⟨fun pins s σ H Q I h => ?_⟩
  obtain ⟨f, B, hs, hC, hB⟩ := h
  refine wpAny_Call_Name_kw (thn ((pe_var (pos := p) (i := i) hN hv hd hcd).run pins s σ H (fun v H1 => v = .ref f ∧ H1 = H) I ⟨.ref f, hs, rfl, rfl⟩) fun u s0 ⟨v, H0, I0, r0, q0⟩ => ?_)
  obtain ⟨ev, eH⟩ := q0
  subst ev eH
  obtain rfl : u = Value.ref f := r0
  refine callWith_F0 (hC.2 s0 _ Q I0.hok hB) ?_
  refine wpAny_call (codeAny_mono (hC.1 X.A X.stack s0 _ Q hr I0.env0 hB) fun r s' hq => ?_)
  cases r with
  | error e => exact hx pins σ _ _ e s' I0 hq
  | ok fl =>
    cases fl with
    | ret u => exact I0.after hq
    | next => exact False.elim hq
    | brk => exact False.elim hq
    | cont => exact False.elim hq
end N4
set_option Elab.async false
set_option linter.all false
set_option maxRecDepth 100000
set_option maxHeartbeats 4000000
/-! the lambda is made -/
namespace N4
open DL (StrAt same_new Df pe_df)
open PySem PySem.Spec PyProof.Rows L2 LamX
theorem lamc_ok {P : Program} {w : World} {H : Hp} {h : Heap} {a : Addr} {L : LamW} {pm ctv : Value} (e : h.get? a = some (PySem.W.kla_obj "<lambda>" L.q lamA0 L.body L.scope L.cl pm L.c ctv)) : ObjOk P w H h a (LamC a L) :=
  ⟨⟨pm, ctv, e⟩, ⟨_, e⟩, fun h1 h2 ⟨y, z, e1⟩ st => ⟨y, z, st _ e1⟩⟩
section
variable {X : Cx} {pins : List (Addr × Obj)} {σ : L2.St} {H : Hp} {s : Shared}
theorem lam_make4 {T : List (Addr × Str)} {c P : Addr} {pos : Pos} {body : Expr} {scope : Scope} {E : Value → Shared → Prop} {Q : Value → Shared → Prop} (I : Inv X pins σ H s) (TB : TabB X.base X.mg c P) (hcode : X.env.code = .ref c)
    (hm : (P, X.env.qual ++ "<lambda>") ∈ T) (hu : ∀ p ∈ T, p.1 = P → p.2 = X.env.qual ++ "<lambda>") (hT : Tabs T H) (hfree : ∀ y ∈ scope.names, y.2 = .free → ∃ c, X.env.cells.lookup y.1 = some c)
    (h : ∀ (f c' : Addr) (H1 : Hp) (s' : Shared), Inv X pins σ (upd H1 f (LamC f ⟨c', X.env.qual ++ "<lambda>", body, scope, cloFrom X.env.cells scope.names []⟩)) s' → ExtN H H1 → (∀ b, H1 b = none → H b = none) → Tabs T H1 → H1 f = none → H1 c' = some (CodeO c' (X.env.qual ++ "<lambda>")) → Q (.ref f) s') :
    wpAny (model X.prog X.w) X.A (eval (.Lambda lamA0 body scope pos) X.env) Q E s := by
  have hclo : closureFor scope X.env = pure (cloFrom X.env.cells scope.names []) := closure_ok hfree
  obtain ⟨ps, hP, ht, ha⟩ := hT _ hm
  refine PySem.W.kla_eval rfl ?_
  have bP : s.heap.BuiltinsAt X.mg P := TB.bm.keeps I.bk
  have hP' : s.heap.get? P = some { cls := .none, data := .fields ps } := I.hok P _ hP
  cases hc : codeAmong pos ps.toList with
  | none =>
    refine PySem.W.kla_makeFunction (mg := X.mg) (c := c) (P := P) (ps := ps) hclo I.ok.glob (I.mod.glob.keeps I.bk) hcode (TB.code.keeps I.bk) hP' ht hc TB.gP bP fun c' ctv h' tk hx hge hlt hrec htb => ?_
    obtain ⟨c2, oc, vs, t, e2, hoc, hd, hv⟩ := hrec
    cases e2
    have hsz : s.heap.objs.size ≤ h'.objs.size := Nat.le_trans hge (Nat.le_of_lt hlt)
    have nC : H c' = none := I.hok.fresh hge
    have I1 := inv_table (t' := tk) (more := #[rawInt pos.line, rawInt pos.col, .ref c']) (h' := h') I hP hx htb hge ⟨oc, vs, t, hoc, hd, hv⟩
    have I2 := I1.laid (a := h'.objs.size) (o := LamC h'.objs.size ⟨c', X.env.qual ++ "<lambda>", body, scope, cloFrom X.env.cells scope.names []⟩) (t' := tk) (h' := h'.push (PySem.W.kla_obj "<lambda>" (X.env.qual ++ "<lambda>") lamA0 body scope (cloFrom X.env.cells scope.names []) ((X.mg "__name__").getD .none) c' ctv))
      (fun b u q => Heap.get?_push_of_some _ q) (Nat.le_refl _) (lamc_ok (Heap.get?_push_size _ rfl))
    have hE : ExtN H (upd (upd H P (.tbl (ps ++ #[rawInt pos.line, rawInt pos.col, .ref c']))) c' (CodeO c' (X.env.qual ++ "<lambda>"))) := fun b o e n => by
      rw [upd_ne (ne_of_none e nC), upd_ne (fun z => n ps (Option.some.inj (e.symm.trans (by rw [z]; exact hP))))]
      exact e
    have eL : (ps ++ #[rawInt pos.line, rawInt pos.col, .ref c']).toList = ps.toList ++ [rawInt pos.line, rawInt pos.col, .ref c'] := by simp
    have hdom : ∀ b, upd (upd H P (.tbl (ps ++ #[rawInt pos.line, rawInt pos.col, .ref c']))) c' (CodeO c' (X.env.qual ++ "<lambda>")) b = none → H b = none := fun b e => by
      by_cases z : b = c'
      · rw [z, upd_same] at e
        cases e
      · rw [upd_ne z] at e
        by_cases z2 : b = P
        · rw [z2, upd_same] at e
          cases e
        · rw [upd_ne z2] at e
          exact e
    refine h h'.objs.size c' _ _ I2 hE hdom (fun p hp => ?_) ?_ upd_same
    · by_cases hb : p.1 = P
      · rw [hu p hp hb, hb]
        refine ⟨_, by rw [upd_ne (ne_of_none hP nC), upd_same], by rw [eL]; exact PySem.TriplesOk_snoc _ _ _ _ ht, fun p' cv hcv => ?_⟩
        rw [eL] at hcv
        rcases among_app _ ht hcv with z | z
        · obtain ⟨c0, e1, e2⟩ := ha p' cv z
          exact ⟨c0, e1, hE _ _ e2 codeO_ne⟩
        · exact ⟨c', z, upd_same⟩
      · obtain ⟨ps', a1, a2, a3⟩ := hT p hp
        refine ⟨ps', by rw [upd_ne (ne_of_none a1 nC), upd_ne hb]; exact a1, a2, fun p' cv hcv => ?_⟩
        obtain ⟨c0, e1, e2⟩ := a3 p' cv hcv
        exact ⟨c0, e1, hE _ _ e2 codeO_ne⟩
    · have n1 : h'.objs.size ≠ c' := Nat.ne_of_gt hlt
      have n2 : h'.objs.size ≠ P := Nat.ne_of_gt (Nat.lt_of_lt_of_le (Heap.lt_size hP') hsz)
      rw [upd_ne n1, upd_ne n2]
      exact I.hok.fresh hsz
  | some cv =>
    obtain ⟨c', e, hco⟩ := ha pos cv hc
    subst e
    refine PySem.W.kla_makeFunctionHit (mg := X.mg) (c := c) (P := P) (ps := ps) hclo I.ok.glob (I.mod.glob.keeps I.bk) hcode (TB.code.keeps I.bk) hP' ht hc bP fun ctv h' tk hx hsz => ?_
    have I1 : Inv X pins σ (upd H h'.objs.size (LamC h'.objs.size ⟨c', X.env.qual ++ "<lambda>", body, scope, cloFrom X.env.cells scope.names []⟩)) { s with heap := h'.push (PySem.W.kla_obj "<lambda>" (X.env.qual ++ "<lambda>") lamA0 body scope (cloFrom X.env.cells scope.names []) ((X.mg "__name__").getD .none) c' ctv), toks := tk } :=
      I.laid (fun b o e => Heap.get?_push_of_some _ (hx b o e)) hsz (lamc_ok (Heap.get?_push_size _ rfl))
    exact h h'.objs.size c' H _ I1 (ExtN.refl H) (fun _ e => e) hT (I.hok.fresh hsz) hco
end
/-- lambda: body, as a value; ce: the maker's cells -/
def tLamC (ce : List (Str × Addr)) (T : List (Addr × Str)) (q : Str) (body : Expr) (scope : Scope) : TE := fun σ H Q => Tabs T H ∧ ∀ (f c' : Addr) (H1 : Hp), ExtN H H1 → (∀ b, H1 b = none → H b = none) → Tabs T H1 → H1 f = none → H1 c' = some (CodeO c' q) →
  Q (.ref f) (upd H1 f (LamC f ⟨c', q, body, scope, cloFrom ce scope.names []⟩))
theorem pe_lamC {X : Cx} {T : List (Addr × Str)} {c P : Addr} {pos : Pos} {body : Expr} {scope : Scope} {q : Str} (TB : TabB X.base X.mg c P) (hcode : X.env.code = .ref c) (hq : X.env.qual ++ "<lambda>" = q) (hm : (P, q) ∈ T) (hu : ∀ p ∈ T, p.1 = P → p.2 = q)
    (hfree : ∀ y ∈ scope.names, y.2 = .free → X.env.scope.names.lookup y.1 = some .cell ∨ X.env.scope.names.lookup y.1 = some .free) : PE X (.Lambda lamA0 body scope pos) (tLamC X.env.cells T q body scope) := by
  subst hq
  refine ⟨fun pins s σ H Q I h => ?_⟩
  refine lam_make4 I TB hcode hm hu h.1 (fun y hy e => I.ok.has _ (hfree y hy e)) fun f c' H1 s' I1 e dm T1 n k => ⟨.ref f, _, I1, rfl, h.2 f c' H1 e dm T1 n k⟩
end N4
set_option Elab.async false
set_option linter.all false
set_option maxRecDepth 100000
set_option maxHeartbeats 4000000
/-! a def called with lambdas: the maker's cells stand still and are known -/
namespace N4
open DL (StrAt same_new Df pe_df)
open PySem PySem.Spec PySem.W PyProof.Rows L2 LamX
structure CellsAt (ce : List (Str × Addr)) (N ns : List Str) (σ : L2.St) (os : List (Addr × Obj)) : Prop where
  keys : ∀ b o, os.lookup b = some o → ∃ x ∈ ns, ce.lookup x = some b
  all : ∀ x ∈ ns, ∃ c o v, ce.lookup x = some c ∧ os.lookup c = some o ∧ o.data = .cell v
  val : ∀ x ∈ ns, ∀ (i : Nat) (v : V), N[i]? = some x → σ[i]? = some (some v) → ∃ c o u, ce.lookup x = some c ∧ os.lookup c = some o ∧ o.data = .cell (some u) ∧ RelV v u
section
variable {X : Cx} {pins : List (Addr × Obj)} {σ : L2.St} {H : Hp} {s : Shared}
theorem cells_ex (I : Inv X pins σ H s) : ∀ ns : List Str, (∀ x ∈ ns, X.env.scope.names.lookup x = some .cell) → ∃ os, (∀ b o, os.lookup b = some o → s.heap.get? b = some o) ∧ CellsAt X.env.cells X.N ns σ os
  | [], _ => ⟨[], (fun b o e => by cases e), ⟨(fun b o e => by cases e), (fun x h => by cases h), (fun x h => by cases h)⟩⟩
  | x :: ns, h => by
    obtain ⟨os, h1, C⟩ := cells_ex I ns fun y hy => h y (List.mem_cons_of_mem _ hy)
    have hk := h x (List.mem_cons_self ..)
    obtain ⟨c, hc⟩ := I.ok.has x (.inl hk)
    obtain ⟨v, o, ho, hd⟩ := I.cell x c hc
    have look : ∀ b o', os.lookup b = some o' → ((c, o) :: os).lookup b = some o' := fun b o' e => by
      by_cases z : b = c
      · have := h1 b o' e
        rw [z, ho] at this
        cases this
        rw [z]
        simp [List.lookup]
      · have zb : (b == c) = false := beq_eq_false_iff_ne.mpr z
        simp only [List.lookup, zb]
        exact e
    have lc : ((c, o) :: os).lookup c = some o := by simp [List.lookup]
    refine ⟨(c, o) :: os, fun b o' e => ?_, ⟨fun b o' e => ?_, fun y hy => ?_, fun y hy i v' e1 e2 => ?_⟩⟩
    · by_cases z : b = c
      · rw [z, lc] at e
        cases e
        rw [z]
        exact ho
      · have zb : (b == c) = false := beq_eq_false_iff_ne.mpr z
        simp only [List.lookup, zb] at e
        exact h1 b o' e
    · by_cases z : b = c
      · exact ⟨x, List.mem_cons_self .., by rw [z]; exact hc⟩
      · have zb : (b == c) = false := beq_eq_false_iff_ne.mpr z
        simp only [List.lookup, zb] at e
        obtain ⟨y, hy, e'⟩ := C.keys b o' e
        exact ⟨y, List.mem_cons_of_mem _ hy, e'⟩
    · rcases List.mem_cons.mp hy with e | e
      · rw [e]
        exact ⟨c, o, v, hc, lc, hd⟩
      · obtain ⟨c', o', v', a1, a2, a3⟩ := C.all y e
        exact ⟨c', o', v', a1, look _ _ a2, a3⟩
    · rcases List.mem_cons.mp hy with e | e
      · subst e
        obtain ⟨m, hn, hl⟩ := I.loc
        obtain ⟨u, r, l⟩ := hl i y v' e1 e2 (.inr (.inl hk))
        rcases l with ⟨hk2, _⟩ | ⟨_, c', hc', o', ho', hd'⟩
        · have hk2 : X.env.scope.names.lookup y = some .local := hk2
          rw [hk] at hk2
          cases hk2
        · rw [hc] at hc'
          cases hc'
          rw [ho] at ho'
          cases ho'
          exact ⟨c, o, u, hc, lc, hd', r⟩
      · obtain ⟨c', o', u, a1, a2, a3, a4⟩ := C.val y e i v' e1 e2
        exact ⟨c', o', u, a1, look _ _ a2, a3, a4⟩
theorem cell_apart (I : Inv X pins σ H s) (hfn : ∀ x, X.fn x = true) {x : Str} {c : Addr} (hc : X.env.cells.lookup x = some c) : X.base.get? c = none ∧ c ∉ frs X.stack ∧ H c = none := by
  have h0 := I.ok.cab x c (hfn x) hc
  refine ⟨?_, fun z => ?_, I.freeC x c hc⟩
  · cases e : X.base.get? c with
    | none => rfl
    | some o => exact absurd (Nat.lt_of_lt_of_le (Nat.lt_of_lt_of_le (Heap.lt_size e) I.ok.bsz) h0) (Nat.lt_irrefl _)
  · rcases List.mem_cons.mp (I.stkSub c z) with e | e
    · exact I.cne x c hc e
    · obtain ⟨_, o, ho, _⟩ := I.ok.funs.mem e
      exact absurd (Nat.lt_of_lt_of_le (Heap.lt_size ho) h0) (Nat.lt_irrefl _)
end
/-- f(..), a def of the text, the cells of ns told to it -/
def tCallC (ce : List (Str × Addr)) (N ns : List Str) (sp : Sp) (t : TA) : TE := fun σ H Q => t σ H fun vs H1 => ∀ os, CellsAt ce N ns σ os → (∀ b o, os.lookup b = some o → H1 b = none) → sp vs (frzA os H1) (fun v H2 => Q v (unF os H2)) E0
theorem pe_dfC {X : Cx} {ns : List Str} {x : Str} {k : Nat} {ps : List Str} {sp : Sp} {e : Expr} {es : List Expr} {t : TA} {p pos : Pos} (D : Df X.prog X.w X.K X.mg X.base x k ps sp) (hns : ∀ x ∈ ns, X.env.scope.names.lookup x = some .cell) (hfn : ∀ x, X.fn x = true) (hr : Room k X.A) (hg : Gl X x) (ha : PA X (e :: es) t)
    (hdb : (x == ("__debug__" : Str)) = false := by decide) (he : starEach (e :: es) X.env = (false, eval e X.env) :: starEach es X.env := by rfl) (hpl : (backTo pos (starEach es X.env)).any (·.1) = false := by rfl) :
    PE X (.Call (.Name x p) (e :: es) [] pos) (tCallC X.env.cells X.N ns sp t) := by
  obtain ⟨f, fd, hm, hk, hb, F⟩ := D.ex
  refine ⟨fun pins s σ H Q I h => ?_⟩
  refine wpAny_Call_Name_kw (ld_glob I hg hm ?_ hdb)
  refine PySem.W.callWith_K (h₀ := X.base) I.ok.mod.kin hk (thn (ha.run pos pins s σ H _ I h) fun us s1 ⟨vs, H1, I1, r, q⟩ => ⟨I1.kIn, ?_⟩) he hpl
  obtain ⟨os, h1, C⟩ := cells_ex I1 ns hns
  have ap : ∀ b o, os.lookup b = some o → s1.heap.get? b = some o ∧ X.base.get? b = none ∧ b ∉ frs X.stack ∧ H1 b = none := fun b o e => by
    obtain ⟨y, _, hc⟩ := C.keys b o e
    exact ⟨h1 b o e, cell_apart I1 hfn hc⟩
  have hsp := q os C fun b o e => (ap b o e).2.2.2
  have hl : us.length = ps.length := r.length.symm.trans (F.len _ _ _ _ hsp)
  have bb := hb s1 us I1.kIn (by rw [List.append_nil]; exact hl)
  rw [List.append_nil] at bb
  refine wpAny_call (codeAny_mono (F.run X.A X.stack s1 (frzA os H1) ⟨us, []⟩ us vs _ E0 hr (env0_frz I1.env0 ap) bb r hsp) fun r s' hq => ?_)
  cases r with
  | error e => exact hq.elim
  | ok fl =>
    cases fl with
    | ret u => exact I1.after (ce_unF (fun b o e => ⟨(ap b o e).1, (ap b o e).2.2.2⟩) hq)
    | next => exact False.elim hq
    | brk => exact False.elim hq
    | cont => exact False.elim hq
end N4
set_option Elab.async false
set_option linter.all false
set_option maxRecDepth 100000
set_option maxHeartbeats 4000000
/-! _law_twice -/
namespace N4
open DL (StrAt same_new Df pe_df)
open PySem PySem.Spec PySem.W PyProof.Rows L2 LiI RZ
theorem dps_app : ∀ l m : List Dat, dps (l ++ m) = max (dps l) (dps m)
  | [], m => by simp [dps]
  | d :: l, m => by simp only [List.cons_append, dps, dps_app l m]; omega
mutual
theorem dp_spoil : ∀ d : Dat, d.spoil.dp = d.dp
  | .non => rfl
  | .bl _ => rfl
  | .int _ => rfl
  | .str _ => rfl
  | .lst l => by
    simp only [Dat.spoil, Dat.dp, dps_app, dps_spoil l, dps]
    omega
  | .tup l => by simp only [Dat.spoil, Dat.dp, dps_spoil l]
theorem dps_spoil : ∀ l : List Dat, dps (spoils l) = dps l
  | [] => rfl
  | d :: l => by simp only [spoils, dps, dp_spoil d, dps_spoil l]
end
theorem spoils_len : ∀ l : List Dat, (spoils l).length = l.length
  | [] => rfl
  | d :: l => by simp [spoils, spoils_len l]
theorem fits_app {n : Nat} : ∀ {l m : List Dat}, fits n l → fits n m → fits n (l ++ m)
  | [], m, _, h => h
  | d :: l, m, h1, h2 => by
    unfold fits at h1
    rw [List.cons_append]
    unfold fits
    exact ⟨h1.1, fits_app h1.2 h2⟩
mutual
theorem fit_spoil {n : Nat} : ∀ {d : Dat}, d.fit n → d.spoil.fit (n + 1)
  | .non, _ => by unfold Dat.spoil Dat.fit; trivial
  | .bl _, _ => by unfold Dat.spoil Dat.fit; trivial
  | .int _, _ => by unfold Dat.spoil Dat.fit; trivial
  | .str _, _ => by unfold Dat.spoil Dat.fit; trivial
  | .lst l, h => by
    unfold Dat.fit at h
    show Dat.fit (n + 1) (.lst (spoils l ++ [.str "late"]))
    unfold Dat.fit
    refine ⟨by rw [List.length_append, spoils_len]; show l.length + 1 ≤ n + 1; omega, fits_app (fits_spoil h.2) ?_⟩
    unfold fits
    exact ⟨by unfold Dat.fit; trivial, by unfold fits; trivial⟩
  | .tup l, h => by
    unfold Dat.fit at h
    show Dat.fit (n + 1) (.tup (spoils l))
    unfold Dat.fit
    exact ⟨by rw [spoils_len]; omega, fits_spoil h.2⟩
theorem fits_spoil {n : Nat} : ∀ {l : List Dat}, fits n l → fits (n + 1) (spoils l)
  | [], _ => by unfold spoils fits; trivial
  | d :: l, h => by
    unfold fits at h
    unfold spoils fits
    exact ⟨fit_spoil h.1, fits_spoil h.2⟩
end
mutual
theorem fit_mono {m n : Nat} (h : m ≤ n) : ∀ {d : Dat}, d.fit m → d.fit n
  | .non, _ => by unfold Dat.fit; trivial
  | .bl _, _ => by unfold Dat.fit; trivial
  | .int _, _ => by unfold Dat.fit; trivial
  | .str _, _ => by unfold Dat.fit; trivial
  | .lst l, f => by
    unfold Dat.fit at *
    exact ⟨Nat.le_trans f.1 h, fits_mono h f.2⟩
  | .tup l, f => by
    unfold Dat.fit at *
    exact ⟨Nat.le_trans f.1 h, fits_mono h f.2⟩
theorem fits_mono {m n : Nat} (h : m ≤ n) : ∀ {l : List Dat}, fits m l → fits n l
  | [], _ => by unfold fits; trivial
  | d :: l, f => by
    unfold fits at *
    exact ⟨fit_mono h f.1, fits_mono h f.2⟩
end
end N4
set_option Elab.async false
set_option linter.all false
set_option maxRecDepth 100000
set_option maxHeartbeats 4000000
/-! _law_twice -/
namespace N4
open DL (StrAt same_new Df pe_df)
open PySem PySem.Spec PySem.W PyProof.Rows L2 LiI RZ
abbrev sTwice : Stmt := top 53
def spTwice (P : Program) (w : World) (K : Frag) (mg : Str → Option Value) (base : Heap) (k n : Nat) : Sp := fun vs H Q _ => ∃ (dv : V) (d : Dat) (f1 f2 : Addr) (B1 B2 : Hp → VK → Prop), vs = [dv, .ref f1, .ref f2] ∧ Dv H d dv ∧ d.dp ≤ n ∧ d.fit 900 ∧ CallsAs P w K mg base k f1 B1 ∧ CallsAs P w K mg base k f2 B2 ∧
  (∀ H' Q', Same H H' → NewD H' d Q' → B1 H' Q') ∧ (∀ H' Q', Same H H' → NewD H' d Q' → B2 H' Q') ∧ ∀ H', Same H H' → Q (.bl true) H'
section
variable {P : Program} {w : World} {K : PySem.W.Frag} {mg : Str → Option Value} {base : Heap}
theorem scTwice : FnScope ["due", "first", "other", "found", "spoilt"] ["due", "first", "other"] (defScope sTwice) := ⟨rfl, rfl, rfl, by decide, rfl, by decide +kernel, by decide +kernel⟩
theorem same_out {L : List Addr} {H0 H H' : Hp} (s : Same H0 H) (k : OutL L H H') (f : ∀ b ∈ L, H0 b = none) : Same H0 H' := fun b o e => k b o (s b o e) fun hb => by
  rw [f b hb] at e
  cases e
theorem ok_twice {f : Addr} {fd : FuncData} {k n m : Nat} (hk : k ≤ m) (hm : n + 3 ≤ m) (F : Fun K "_law_twice" "_law_twice" sTwice f fd) (DC : Df P w K mg base "_law_copied" (n + 2) ["thing"] (spCopied n)) (DS : Df P w K mg base "_law_same" (n + 3) ["found", "due"] (spSame (n + 1))) (DP : Df P w K mg base "_law_spoilt" (n + 2) ["thing"] (spSpoilt n)) :
    FnOk P w K mg base CX0 (m + 1) f fd ["due", "first", "other"] (spTwice P w K mg base k n) := by
  refine F.ok (k := m) scTwice (fun vs H Q E h => by obtain ⟨dv, d, f1, f2, B1, B2, rfl, _⟩ := h; rfl) fun cdv A outer s0 H vs Q E hr hsp => ?_
  obtain ⟨dv, d, f1, f2, B1, B2, rfl, hd, hdp, hf, C1, C2, h1, h2, kq⟩ := hsp
  have rk : Room k _ := hr.mono hk
  have r2 : Room (n + 2) _ := hr.mono (by omega)
  have r3 : Room (n + 3) _ := hr.mono hm
  refine ⟨_, pss_cons (ps_par (i := 3) (j := 4) (by rfl) scTwice.nd rfl rfl (by decide) rfl rfl (pa_cons (pe_callV (i := 1) rk pass0 rfl (Or.inl rfl)) (pa_cons (pe_df DC r2 (by rfl) (pa_cons (pv 0) pa_nil)) pa_nil)) (by rfl))
    (pss_cons (ps_if (pt_not (pt_val (pe_df DS r3 (by rfl) (pa_cons (pv 3) (pa_cons (pv 0) pa_nil))))) (pss_one (ps_ret pe_bl)) pss_nil)
    (pss_cons (ps_expr (pe_df DP r2 (by rfl) (pa_cons (pv 3) pa_nil)))
    (pss_cons (ps_expr (pe_df DP r2 (by rfl) (pa_cons (pv 4) pa_nil)))
    (pss_one (ps_ret (pe_df DS r3 (by rfl) (pa_cons (pe_lst (pa_cons (pv 3) (pa_cons (pe_callV (i := 2) rk pass0 rfl (Or.inl rfl)) (pa_cons (pe_callV (i := 1) rk pass0 rfl (Or.inl rfl)) pa_nil))))
      (pa_cons (pe_lst (pa_cons (pv 4) (pa_cons (pv 0) (pa_cons (pv 0) pa_nil)))) pa_nil)))))))), ?_⟩
  refine ⟨f1, B1, rfl, C1, h1 H _ (fun _ _ e => e) fun v1 H1 L1 s1 o1 n1 e1 => ?_⟩
  have hf' := fit_mono (by decide : 900 ≤ 1000) hf
  refine ⟨_, rfl, dv, d, rfl, Dv.same s1 _ hd, hdp, hf', fun v2 H2 L2 s2 o2 n2 e2 => ?_⟩
  refine ⟨v1, v2, rfl, ?_⟩
  have S2 := s1.trans s2
  have o1b := o1.keep _ (Same.kpl s2 L1)
  refine ⟨_, rfl, _, rfl, v1, dv, d, rfl, Ow.dv _ o1b, Dv.same S2 _ hd, Nat.le_succ_of_le hdp, hf', fun H3 s3 => ⟨true, rfl, ?_⟩⟩
  refine iteF ?_
  have o1c := o1b.keep _ (Same.kpl s3 L1)
  have o2c := o2.keep _ (Same.kpl s3 L2)
  have S3 := S2.trans s3
  refine ⟨_, rfl, v1, d, L1, rfl, o1c, n1, hdp, hf, fun H4 o1d k4 => ?_⟩
  have l1 := Ow.lists _ o1c
  have d12 : ∀ b ∈ L2, b ∉ L1 := fun b hb hb1 => by
    obtain ⟨xs, hx⟩ := Ow.lists _ o1 b hb1
    rw [e2 b hb] at hx
    cases hx
  have o2d := o2c.keep _ (out_kpl k4 l1 d12)
  have S4 := same_out S3 k4 e1
  refine ⟨_, rfl, v2, d, L2, rfl, o2d, n2, hdp, hf, fun H5 o2e k5 => ?_⟩
  have l2 := Ow.lists _ o2d
  have o1e := o1d.keep _ (out_kpl k5 l2 fun b hb hb2 => d12 b hb2 hb)
  have S5 := same_out S4 k5 fun b hb => none_of s1 (e2 b hb)
  refine ⟨_, rfl, f2, B2, rfl, C2, h2 H5 _ S5 fun v3 H6 L3 s6 o3 n3 e3 => ?_⟩
  refine ⟨f1, B1, rfl, C1, h1 H6 _ (S5.trans s6) fun v4 H7 L4 s7 o4 n4 e4 => ?_⟩
  refine ⟨by show 3 ≤ sizeLine; decide, fun a ha => ?_⟩
  have s8 := same_new' ha (.lst [v1, v3, v4])
  have a8 : upd H7 a (.lst [v1, v3, v4]) a = some (.lst [v1, v3, v4]) := upd_same
  refine ⟨_, rfl, _, rfl, _, rfl, by show 3 ≤ sizeLine; decide, fun b hb => ?_⟩
  have s9 := same_new' hb (.lst [v2, dv, dv])
  have S59 := (s6.trans s7).trans (s8.trans s9)
  have dvs3 : ∀ (H' : Hp) (x y z : V), Dv H' d.spoil x → Dv H' d y → Dv H' d z → Dvs H' [d.spoil, d, d] [x, y, z] := fun H' x y z h1 h2 h3 => by
    unfold Dvs Dvs Dvs Dvs
    exact ⟨x, _, rfl, h1, y, _, rfl, h2, z, _, rfl, h3, rfl⟩
  refine ⟨.ref a, .ref b, .lst [d.spoil, d, d], rfl, ?_, ?_, ?_, ?_, fun H' s' => kq H' ((S5.trans S59).trans s')⟩
  · unfold Dv
    exact ⟨a, _, rfl, s9 _ _ a8, dvs3 _ _ _ _ (Dv.same S59 _ (Ow.dv _ o1e)) (Dv.same (s7.trans (s8.trans s9)) _ (Ow.dv _ o3)) (Dv.same (s8.trans s9) _ (Ow.dv _ o4))⟩
  · unfold Dv
    exact ⟨b, _, rfl, upd_same, dvs3 _ _ _ _ (Dv.same S59 _ (Ow.dv _ o2e)) (Dv.same (S5.trans S59) _ hd) (Dv.same (S5.trans S59) _ hd)⟩
  · simp only [Dat.dp, dps, dp_spoil]
    omega
  · unfold Dat.fit
    refine ⟨by show 3 ≤ 1000; decide, ?_⟩
    unfold fits fits fits fits
    exact ⟨fit_mono (by decide) (fit_spoil hf), hf', hf', trivial⟩
end
end N4
set_option Elab.async false
set_option linter.all false
set_option maxRecDepth 100000
set_option maxHeartbeats 4000000
/-! the general helpers by data: draw, mixed, same -/
namespace N4
open DL (StrAt same_new Df pe_df TabsOf)
variable [TabsOf]
open PySem PySem.Spec PySem.W PyProof.Rows L2 LiI RZ
/-- the next number below m -/
def fDraw : DL.DF := fun ds n Q => ∃ m, ds = [.strm, .int m] ∧ (0 < m ∧ m < 1073741824 ∧ n < 1000000) ∧ ∀ g, 0 ≤ g → g < m → Q (.int g) (n + 1)
def fMixed : DL.DF := fun ds n Q => ∃ l, ds = [.strm, .lst l] ∧ (n + l.length < 1000000 ∧ l.length ≤ 1000) ∧ ∀ l', (∀ y ∈ l', y ∈ l) → Q (.own l') (n + l.length)
theorem go_but {W : DL.Wd} {H G H' : Hp} {n n' : Int} (hs : DL.Hs W H G n) (u : W.use = true) (k : But W.st W.q H H') (s : StrAt H' W.st W.q n') (h0 : 0 ≤ n') : DL.Go W H G H' G ∧ DL.Hs W H' G n' := by
  obtain ⟨s0, ne, n0⟩ := hs.str u
  obtain ⟨ns0, a0, c0, e01, e02, _⟩ := s0.ex
  have m1 : W.mv W.st := ⟨u, .inl rfl⟩
  have m2 : W.mv W.q := ⟨u, .inr rfl⟩
  refine ⟨⟨fun b o e _ ns => k b o e (fun z => ns (z ▸ m1)) (fun z => ns (z ▸ m2)), fun b e => ?_, DL.Same.refl, fun b o e => .inl e⟩, ⟨fun b o e => k b o (hs.le _ _ e) (fun z => by rw [z, hs.out _ m1] at e; cases e) (fun z => by rw [z, hs.out _ m2] at e; cases e), fun _ => ⟨s, ne, h0⟩,
    fun us => DL.tabs_keep (hs.tab us) fun b o e nl => k b o e (fun z => nl _ (Option.some.inj ((z ▸ e).symm.trans e01))) (fun z => nl _ (Option.some.inj ((z ▸ e).symm.trans e02))), hs.out, hs.nt⟩⟩
  obtain ⟨ns, a, c, e1, e2, _⟩ := s.ex
  cases q : H b with
  | none => rfl
  | some o =>
    by_cases z1 : b = W.st
    · rw [z1, e1] at e; cases e
    · by_cases z2 : b = W.q
      · rw [z2, e2] at e; cases e
      · rw [k b o q z1 z2] at e; cases e
theorem go_same {W : DL.Wd} {H G H' : Hp} {n : Int} (hs : DL.Hs W H G n) (k : Same H H') : DL.Go W H G H' G ∧ DL.Hs W H' G n := by
  refine ⟨⟨fun b o e _ ns => k b o e, fun b e => ?_, DL.Same.refl, fun b o e => .inl e⟩, ⟨fun b o e => k b o (hs.le _ _ e), fun u => ?_, (fun us => (hs.tab us).ext k), hs.out, hs.nt⟩⟩
  · cases q : H b with
    | none => rfl
    | some o => rw [k b o q] at e; cases e
  · obtain ⟨s, ne, n0⟩ := hs.str u
    exact ⟨StrAt_same s k, ne, n0⟩
section
variable {P : Program} {w : World} {K : PySem.W.Frag} {mg : Str → Option Value} {base : Heap}
theorem ok_drawD {f : Addr} {fd : FuncData} (F : Fun K "_law_draw" "_law_draw" sDraw f fd) (ma : mg "abs" = none) (mi : mg "int" = none) : FnOk P w K mg base CX0 1 f fd ["stream", "many"] (DL.spD 2 fDraw) :=
  (ok_draw F ma mi).imp fun vs H Q E ⟨W, G, n, ds, q, hs, hd, hl, ⟨m, ed, ⟨b1, b2, b3⟩, e⟩, ke⟩ => by
    subst ed
    obtain ⟨v, w, rfl, o1, o2⟩ := DL.dvs_two hd
    unfold DL.Dv at o1 o2
    obtain ⟨rfl, u⟩ := o1
    obtain ⟨s, ne, n0⟩ := hs.str u
    refine ⟨W.st, W.q, n, m, by rw [o2], s, ne, b1, b2, n0, b3, fun g H' h0 h1 s' k => ?_⟩
    obtain ⟨gg, hs'⟩ := go_but hs u k s' (by omega)
    exact ke.dv gg hs' (d := .int g) DL.dv_int (e g h0 h1)
theorem dvs_mem {G : Hp} {W : DL.Wd} {l : List DL.Dat} {xs : List V} (o : DL.Dvs G W l xs) : ∀ ys : List V, (∀ y ∈ ys, y ∈ xs) → ∃ l', (∀ d ∈ l', d ∈ l) ∧ DL.Dvs G W l' ys
  | [], _ => ⟨[], (fun d h => by cases h), DL.Dvs.nil⟩
  | y :: ys, h => by
    obtain ⟨l', h1, h2⟩ := dvs_mem o ys fun z hz => h z (List.mem_cons_of_mem _ hz)
    obtain ⟨i, hi⟩ := List.getElem?_of_mem (h y (List.mem_cons_self ..))
    obtain ⟨d, ed, od⟩ := o.at hi
    exact ⟨d :: l', fun e he => (List.mem_cons.mp he).elim (fun z => z ▸ List.mem_of_getElem? ed) (h1 e), DL.Dvs.cons od h2⟩
theorem ok_mixedD {f : Addr} {fd : FuncData} (F : Fun K "_law_mixed" "_law_mixed" sMixed f fd) (DD : Df P w K mg base "_law_draw" 1 ["stream", "many"] spDraw) (ml : mg "list" = none) (mr : mg "range" = none) (mn : mg "len" = none) : FnOk P w K mg base CX0 2 f fd ["stream", "things"] (DL.spD 2 fMixed) :=
  (ok_mixed F DD ml mr mn).imp fun vs H Q E ⟨W, G, n, ds, q, hs, hd, hl, ⟨l, ed, ⟨b1, b2⟩, e⟩, ke⟩ => by
    subst ed
    obtain ⟨v, w, rfl, o1, o2⟩ := DL.dvs_two hd
    unfold DL.Dv at o1 o2
    obtain ⟨rfl, u⟩ := o1
    obtain ⟨a, xs, rfl, ha, ox⟩ := o2
    obtain ⟨s, ne, n0⟩ := hs.str u
    refine ⟨W.st, W.q, a, n, xs, rfl, s, ne, n0, by rw [ox.len]; exact b1, hs.le _ _ ha, by rw [ox.len]; exact b2, fun b ys H' k s' hb hb' hy => ?_⟩
    obtain ⟨gg, hs'⟩ := go_but hs u k s' (by omega)
    obtain ⟨l', h1, h2⟩ := dvs_mem ox ys hy
    rw [ox.len] at hs'
    refine ke (.own l') _ (.ref b) H' G [b] gg hs' ⟨?_, by simp, fun c hc => ?_⟩ (e l' h1)
    · unfold DL.Ow
      exact ⟨b, ys, [], rfl, hb', rfl, DL.Ows.of_dvs _ h2⟩
    · rw [List.mem_singleton.mp hc]
      exact ⟨hb, hs.gnone hb⟩
end
mutual
/-- the same as plain data of the other kind -/
def toN : DL.Dat → Dat
  | .bl b => .bl b
  | .int i => .int i
  | .str s => .str s
  | .lst l => .lst (toNs l)
  | .own l => .lst (toNs l)
  | .tup l => .tup (toNs l)
  | .non => .non
  | .strm => .non
  | .fn _ => .non
def toNs : List DL.Dat → List Dat
  | [] => []
  | d :: l => toN d :: toNs l
end
mutual
theorem dv_toN {W : DL.Wd} {H G : Hp} (le : Same G H) : ∀ (d : DL.Dat) {v : V}, d.pl = true → DL.Dv G W d v → Dv H (toN d) v
  | .non, _, _, h => by unfold DL.Dv at h; unfold toN Dv; exact h
  | .bl b, _, _, h => by unfold DL.Dv at h; unfold toN Dv; exact h
  | .int b, _, _, h => by unfold DL.Dv at h; unfold toN Dv; exact h
  | .str b, _, _, h => by unfold DL.Dv at h; unfold toN Dv; exact h
  | .lst l, v, e, h => by
    unfold DL.Dv at h
    unfold DL.Dat.pl at e
    unfold toN Dv
    obtain ⟨a, xs, rfl, h, r⟩ := h
    exact ⟨a, xs, rfl, le _ _ h, dvs_toN le l e r⟩
  | .tup l, v, e, h => by
    unfold DL.Dv at h
    unfold DL.Dat.pl at e
    unfold toN Dv
    obtain ⟨a, xs, rfl, h, r⟩ := h
    exact ⟨a, xs, rfl, le _ _ h, dvs_toN le l e r⟩
  | .own l, _, _, h => by unfold DL.Dv at h; exact h.elim
  | .strm, _, e, h => by cases e
  | .fn a, _, e, h => by cases e
theorem dvs_toN {W : DL.Wd} {H G : Hp} (le : Same G H) : ∀ (l : List DL.Dat) {xs : List V}, DL.pls l = true → DL.Dvs G W l xs → Dvs H (toNs l) xs
  | [], _, _, h => by unfold DL.Dvs at h; unfold toNs Dvs; exact h
  | d :: l, xs, e, h => by
    unfold DL.Dvs at h
    unfold DL.pls at e
    rw [Bool.and_eq_true] at e
    unfold toNs Dvs
    obtain ⟨x, r, rfl, h1, h2⟩ := h
    exact ⟨x, r, rfl, dv_toN le d e.1 h1, dvs_toN le l e.2 h2⟩
end
mutual
/-- how deep -/
def dpD : DL.Dat → Nat
  | .lst l => dpDs l + 1
  | .own l => dpDs l + 1
  | .tup l => dpDs l + 1
  | .non => 0
  | .bl _ => 0
  | .int _ => 0
  | .str _ => 0
  | .strm => 0
  | .fn _ => 0
def dpDs : List DL.Dat → Nat
  | [] => 0
  | d :: l => max (dpD d) (dpDs l)
end
mutual
/-- data alone, no list longer than n -/
def fitD (n : Nat) : DL.Dat → Bool
  | .lst l => decide (l.length ≤ n) && fitDs n l
  | .own l => decide (l.length ≤ n) && fitDs n l
  | .tup l => decide (l.length ≤ n) && fitDs n l
  | .strm => false
  | .fn _ => false
  | .non => true
  | .bl _ => true
  | .int _ => true
  | .str _ => true
def fitDs (n : Nat) : List DL.Dat → Bool
  | [] => true
  | d :: l => fitD n d && fitDs n l
end
mutual
theorem dp_toN : ∀ d : DL.Dat, (toN d).dp = dpD d
  | .non => rfl
  | .bl _ => rfl
  | .int _ => rfl
  | .str _ => rfl
  | .strm => rfl
  | .fn _ => rfl
  | .lst l => by unfold toN dpD Dat.dp; rw [dps_toN l]
  | .own l => by unfold toN dpD Dat.dp; rw [dps_toN l]
  | .tup l => by unfold toN dpD Dat.dp; rw [dps_toN l]
theorem dps_toN : ∀ l : List DL.Dat, dps (toNs l) = dpDs l
  | [] => rfl
  | d :: l => by unfold toNs dpDs dps; rw [dp_toN d, dps_toN l]
end
theorem toNs_len : ∀ l : List DL.Dat, (toNs l).length = l.length
  | [] => rfl
  | d :: l => by unfold toNs; rw [List.length_cons, List.length_cons, toNs_len l]
mutual
theorem fit_toN {n : Nat} : ∀ d : DL.Dat, fitD n d = true → (toN d).fit n ∧ d.pl = true
  | .non, _ => ⟨by unfold toN Dat.fit; trivial, rfl⟩
  | .bl _, _ => ⟨by unfold toN Dat.fit; trivial, rfl⟩
  | .int _, _ => ⟨by unfold toN Dat.fit; trivial, rfl⟩
  | .str _, _ => ⟨by unfold toN Dat.fit; trivial, rfl⟩
  | .strm, h => by cases h
  | .fn _, h => by cases h
  | .lst l, h => by
    unfold fitD at h
    rw [Bool.and_eq_true, decide_eq_true_eq] at h
    unfold toN Dat.fit DL.Dat.pl
    have := fits_toN l h.2
    exact ⟨⟨by rw [toNs_len]; exact h.1, this.1⟩, this.2⟩
  | .own l, h => by
    unfold fitD at h
    rw [Bool.and_eq_true, decide_eq_true_eq] at h
    unfold toN Dat.fit DL.Dat.pl
    have := fits_toN l h.2
    exact ⟨⟨by rw [toNs_len]; exact h.1, this.1⟩, this.2⟩
  | .tup l, h => by
    unfold fitD at h
    rw [Bool.and_eq_true, decide_eq_true_eq] at h
    unfold toN Dat.fit DL.Dat.pl
    have := fits_toN l h.2
    exact ⟨⟨by rw [toNs_len]; exact h.1, this.1⟩, this.2⟩
theorem fits_toN {n : Nat} : ∀ l : List DL.Dat, fitDs n l = true → fits n (toNs l) ∧ DL.pls l = true
  | [], _ => ⟨by unfold toNs fits; trivial, rfl⟩
  | d :: l, h => by
    unfold fitDs at h
    rw [Bool.and_eq_true] at h
    unfold toNs fits DL.pls
    have h1 := fit_toN d h.1
    have h2 := fits_toN l h.2
    exact ⟨⟨h1.1, h2.1⟩, by rw [h1.2, h2.2]; rfl⟩
end
/-- two equal things -/
def fSame : DL.DF := fun ds n Q => ∃ a, ds = [a, a] ∧ (dpD a ≤ 6 ∧ fitD 1000 a = true) ∧ Q (.bl true) n
section
variable {P : Program} {w : World} {K : PySem.W.Frag} {mg : Str → Option Value} {base : Heap}
theorem ok_sameD {f : Addr} {fd : FuncData} (F : FnOk P w K mg base CX0 8 f fd ["found", "due"] (spSame 6)) : FnOk P w K mg base CX0 8 f fd ["found", "due"] (DL.spD 2 fSame) :=
  F.imp fun vs H Q E ⟨W, G, n, ds, q, hs, hd, hl, ⟨a, ed, ⟨b1, b2⟩, e⟩, ke⟩ => by
    subst ed
    obtain ⟨v, w, rfl, o1, o2⟩ := DL.dvs_two hd
    obtain ⟨f1, f2⟩ := fit_toN a b2
    refine ⟨v, w, toN a, rfl, dv_toN hs.le a f2 o1, dv_toN hs.le a f2 o2, by rw [dp_toN]; exact b1, f1, fun H' k => ?_⟩
    obtain ⟨gg, hs'⟩ := go_same hs k
    exact ke.dv gg hs' (d := .bl true) (by unfold DL.Dv; rfl) e
end
end N4
set_option Elab.async false
set_option linter.all false
set_option maxRecDepth 100000
set_option maxHeartbeats 4000000
namespace M4
open PySem PySem.Spec PySem.W PyProof.Rows L2 LiI RZ DL
open N4 (top fDraw fMixed fSame)
section
variable [TabsOf] {P : Program} {w : World} {K : PySem.W.Frag} {mg : Str → Option Value} {base : Heap}
/-- _law_copied -/
def b_51 (S : DF) : DS := (dSeq (dIfS [true, false, false, false] (dTest (dIsi "dict" (dVar 0))) dNever dNext) (dSeq (dSet 3 [true, false, true, false] (dIf (dTest (dIsLT (dVar 0))) (dLc (dItems (dVar 0)) (dgName 2) dYes (dCall 1 S (dCons (dVar 2) dNil)) [2]) (dVar 0))) (dRet [true, false, false, true] (dIf (dTest (dIsi "tuple" (dVar 0))) (dCB dTuple (dCons (dVar 3) dNil)) (dVar 3)))))
def f_51 (S : DF) : DF := fun ds n q => b_51 S (endD q) (startD ["thing", "key", "one", "some"] ds) n
theorem sc_51 : FnScope ["thing", "key", "one", "some"] ["thing"] (defScope (top 51)) := ⟨rfl, rfl, rfl, by decide, rfl, by decide +kernel, by decide +kernel⟩
theorem ok_51 {k : Nat} (hk : 0 ≤ k) {S : DF} {f : Addr} {fd : FuncData} (F : Fun K "_law_copied" "_law_copied" (top 51) f fd) (D__law_copied : Df P w K mg base "_law_copied" k ["thing"] (spD 1 S))  (m_dict : mg "dict" = none) (m_isinstance : mg "isinstance" = none) (m_list : mg "list" = none) (m_tuple : mg "tuple" = none) : FnOk P w K mg base CX0 (k + 1) f fd ["thing"] (spD 1 (f_51 S)) :=
  fn_data (k := k) (fb := b_51 S) F sc_51 rfl (fun cdv A outer s0 H E hr => ⟨_, (pss_cons (ps_if (pt_val (pe_callB call_isi (by rfl) m_isinstance (by decide +kernel) (pa_cons (pv 0) (pa_cons (pe_bltn (v := .ty "dict") (by rfl) m_dict (by decide +kernel) rfl) pa_nil)))) (pss_one ps_never) pss_nil) (pss_cons (ps_set (i := 3) sc_51.nd rfl (Or.inl rfl) (pe_ifExp (pt_val (pe_callB call_isiT (by rfl) m_isinstance (by decide +kernel) (pa_cons (pv 0) (pa_cons (pe_tup (pa_cons (pe_bltn (v := .ty "list") (by rfl) m_list (by decide +kernel) rfl) (pa_cons (pe_bltn (v := .ty "tuple") (by rfl) m_tuple (by decide +kernel) rfl) pa_nil))) pa_nil)))) (pe_lc (own := [("one", 2)]) (g := (gName 2)) (tt := tYes) (te := (tCall (spD 1 S) [] E0 (tCons (tVar 2) tNil))) rfl sc_51.nd (pi_lt (pv 0)) (blkOk_by (own := [("one", 2)]) (N := ["thing", "key", "one", "some"]) (sc := defScope (top 51)) (by decide +kernel)) (fun _ _ _ _ _ => (pg_name (i := 2) sc_51.nd rfl (Or.inl rfl))) (fun _ _ _ _ _ => pts_nil) (fun _ _ _ _ _ => (pe_df D__law_copied hr (by rfl) (pa_cons (pv 2) pa_nil)))) (pv 0))) (pss_one (ps_ret (pe_ifExp (pt_val (pe_callB call_isi (by rfl) m_isinstance (by decide +kernel) (pa_cons (pv 0) (pa_cons (pe_bltn (v := .ty "tuple") (by rfl) m_tuple (by decide +kernel) rfl) pa_nil)))) (pe_callTy call_tuple_of (by rfl) m_tuple (by decide +kernel) (pa_cons (pv 3) pa_nil)) (pv 3)))))), (rs_seq (rs_if [true, false, false, false] (rt_b (re_isi (T := "dict") (by decide) (re_var 0))) rs_never rs_next) (rs_seq (rs_set 3 [true, false, true, false] (re_if (rt_b (re_isLT (re_var 0))) (re_lc (vs := [2]) (ri_lt (re_var 0)) (rg_name 2 (by decide)) rt_yes (re_call (ra_cons (re_var 2) ra_nil))) (re_var 0))) (rs_ret [true, false, false, true] (re_if (rt_b (re_isi (T := "tuple") (by decide) (re_var 0))) (re_cb cbd_tuple (ra_cons (re_var 3) ra_nil)) (re_var 3)))))⟩) (fun _ _ _ _ _ h => h)
/-- _law_loose -/
def b_52 (S : DF) : DS := (dSeq (dIfS [false, true, false, false] (dNot (dTest (dIsLT (dVar 1)))) (dRetV 1) dNext) (dSeq (dSet 3 [true, true, true, false] (dLc (dItems (dVar 1)) (dgName 2) dYes (dCall 2 S (dCons (dVar 0) (dCons (dVar 2) dNil))) [2])) (dRet [true, false, false, true] (dIf (dTest (dOp dEq (dCall 2 fDraw (dCons (dVar 0) (dCons (dC (.int 2)) dNil))) (dC (.int 0)))) (dCB dTuple (dCons (dVar 3) dNil)) (dVar 3)))))
def f_52 (S : DF) : DF := fun ds n q => b_52 S (endD q) (startD ["stream", "thing", "part", "some"] ds) n
theorem sc_52 : FnScope ["stream", "thing", "part", "some"] ["stream", "thing"] (defScope (top 52)) := ⟨rfl, rfl, rfl, by decide, rfl, by decide +kernel, by decide +kernel⟩
theorem ok_52 {k : Nat} (hk : 1 ≤ k) {S : DF} {f : Addr} {fd : FuncData} (F : Fun K "_law_loose" "_law_loose" (top 52) f fd) (D__law_loose : Df P w K mg base "_law_loose" k ["stream", "thing"] (spD 2 S)) (D__law_draw : Df P w K mg base "_law_draw" 1 ["stream", "many"] (spD 2 fDraw)) (m_isinstance : mg "isinstance" = none) (m_list : mg "list" = none) (m_tuple : mg "tuple" = none) : FnOk P w K mg base CX0 (k + 1) f fd ["stream", "thing"] (spD 2 (f_52 S)) :=
  fn_data (k := k) (fb := b_52 S) F sc_52 rfl (fun cdv A outer s0 H E hr => ⟨_, (pss_cons (ps_if (pt_not (pt_val (pe_callB call_isiT (by rfl) m_isinstance (by decide +kernel) (pa_cons (pv 1) (pa_cons (pe_tup (pa_cons (pe_bltn (v := .ty "list") (by rfl) m_list (by decide +kernel) rfl) (pa_cons (pe_bltn (v := .ty "tuple") (by rfl) m_tuple (by decide +kernel) rfl) pa_nil))) pa_nil))))) (pss_one (ps_ret (pv 1))) pss_nil) (pss_cons (ps_setLc (i := 3) (own := [("part", 2)]) (g := (gName 2)) (tt := tYes) (te := (tCall (spD 2 S) [] E0 (tCons (tVar 0) (tCons (tVar 2) tNil)))) rfl sc_52.nd rfl rfl (sw_true rfl rfl rfl (by decide +kernel)) (pi_lt (pv 1)) (blkOk_by (own := [("part", 2)]) (N := ["stream", "thing", "part", "some"]) (sc := defScope (top 52)) (by decide +kernel)) (fun _ _ _ _ _ => (pg_name (i := 2) sc_52.nd rfl (Or.inl rfl))) (fun _ _ _ _ _ => pts_nil) (fun _ _ _ _ _ => (pe_df D__law_loose hr (by rfl) (pa_cons (pv 0) (pa_cons (pv 2) pa_nil))))) (pss_one (ps_ret (pe_ifExp (pt_cmpR (op_eqs hr.units) (pe_df D__law_draw (hr.mono hk) (by rfl) (pa_cons (pv 0) (pa_cons pe_int pa_nil))) pe_int (nomark _)) (pe_callTy call_tuple_of (by rfl) m_tuple (by decide +kernel) (pa_cons (pv 3) pa_nil)) (pv 3)))))), (rs_seq (rs_if [false, true, false, false] (rt_not (rt_b (re_isLT (re_var 1)))) (rs_retV 1) rs_next) (rs_seq (rs_set 3 [true, true, true, false] (re_lc (vs := [2]) (ri_lt (re_var 1)) (rg_name 2 (by decide)) rt_yes (re_call (ra_cons (re_var 0) (ra_cons (re_var 2) ra_nil))))) (rs_ret [true, false, false, true] (re_if (rt_test (re_op opd_eq (re_call (ra_cons (re_var 0) (ra_cons (re_int 2) ra_nil))) (re_int 0))) (re_cb cbd_tuple (ra_cons (re_var 3) ra_nil)) (re_var 3)))))⟩) (fun _ _ _ _ _ h => h)
end
end M4
set_option Elab.async false
set_option linter.all false
set_option maxRecDepth 100000
set_option maxHeartbeats 4000000
/-! _law_twice with its two lambdas, as one expression -/
namespace N4
open PySem PySem.Spec PySem.W PyProof.Rows L2 LamX
open DL (Df)
/-- a lambda's scope: N1 the names that it captured, at the maker's slots ix; ns: the maker's cells that are told -/
def lamB (N1 ns : List Str) (sc : Scope) (N : List Str) (ix : List Nat) : Bool :=
  (match sc.kind with | .function => true | _ => false) && !sc.isCoroutine && !sc.isGenerator && (sc.names.all fun y => match y.2 with | .local => false | .cell => false | .free => decide (y.1 ∈ ns) | _ => true) &&
    decide (N1.length = ix.length) && ((N1.zip ix).all fun p => decide (N[p.2]? = some p.1) && decide (p.1 ∈ ns) && decide ((p.1, NameKind.free) ∈ sc.names))
structure LamS (N1 ns : List Str) (sc : Scope) (N : List Str) (ix : List Nat) : Prop where
  kind : sc.kind = .function
  co : sc.isCoroutine = false
  gen : sc.isGenerator = false
  own : ∀ y ∈ sc.names, y.2 ≠ .local ∧ y.2 ≠ .cell
  free : ∀ y ∈ sc.names, y.2 = .free → y.1 ∈ ns
  len : N1.length = ix.length
  at' : ∀ (j : Nat) (x : Str), N1[j]? = some x → ∃ i, ix[j]? = some i ∧ N[i]? = some x ∧ x ∈ ns ∧ (x, NameKind.free) ∈ sc.names
theorem lamS_of {N1 ns : List Str} {sc : Scope} {N : List Str} {ix : List Nat} (h : lamB N1 ns sc N ix = true) : LamS N1 ns sc N ix := by
  unfold lamB at h
  simp only [Bool.and_eq_true, Bool.not_eq_true', decide_eq_true_eq] at h
  obtain ⟨⟨⟨⟨⟨h1, h2⟩, h3⟩, h4⟩, h5⟩, h6⟩ := h
  have h4' := List.all_eq_true.mp h4
  refine ⟨?_, h2, h3, fun y hy => ?_, fun y hy e => ?_, h5, fun j x e => ?_⟩
  · cases k : sc.kind <;> rw [k] at h1 <;> first | rfl | cases h1
  · have := h4' y hy
    constructor <;> (intro z; rw [z] at this; cases this)
  · have := h4' y hy
    rw [e] at this
    exact of_decide_eq_true this
  · have hj : j < ix.length := by rw [← h5]; exact (List.getElem?_eq_some_iff.mp e).1
    have z : (N1.zip ix)[j]? = some (x, ix[j]) := by
      rw [List.getElem?_zip_eq_some]
      exact ⟨e, List.getElem?_eq_getElem hj⟩
    have := List.all_eq_true.mp h6 _ (List.mem_of_getElem? z)
    simp only [Bool.and_eq_true, decide_eq_true_eq] at this
    exact ⟨ix[j], List.getElem?_eq_getElem hj, this.1.1, this.1.2, this.2⟩
/-- the slots ix hold vs -/
def Caps (σ : L2.St) (ix : List Nat) (vs : List V) : Prop := vs.length = ix.length ∧ ∀ (j i : Nat) (v : V), ix[j]? = some i → vs[j]? = some v → σ[i]? = some (some v)
def tTw (T : List (Addr × Str)) (n : Nat) (tdue : TE) (ix1 ix2 : List Nat) (tb1 tb2 : TE) : TE := fun σ H Q => tdue σ H fun dv Hd => Tabs T Hd ∧ ∃ (d : Dat) (G : Hp) (vs1 vs2 : List V), Same G Hd ∧ (∀ b o, G b = some o → ∀ ps, o ≠ .tbl ps) ∧ Dv G d dv ∧ d.dp ≤ n ∧ d.fit 900 ∧
  Caps σ ix1 vs1 ∧ Caps σ ix2 vs2 ∧ (∀ H2 Q2, Same G H2 → NewD H2 d Q2 → tb1 (vs1.map some) H2 Q2) ∧ (∀ H2 Q2, Same G H2 → NewD H2 d Q2 → tb2 (vs2.map some) H2 Q2) ∧
  ∀ H2, ExtN Hd H2 → (∀ b, H2 b = none → Hd b = none) → Tabs T H2 → Q (.bl true) H2
/-- the same with any weaker end -/
def tM (t : TE) : TE := fun σ H Q => ∃ P : VK, t σ H P ∧ ∀ v H', P v H' → Q v H'
theorem PE_mono {X : Cx} {e : Expr} {t : TE} (h : PE X e t) : PE X e (tM t) := ⟨fun pins s σ H Q I ⟨P, h1, h2⟩ => thn (h.run pins s σ H P I h1) fun u s1 ⟨v, H1, I1, r, q⟩ => ⟨v, H1, I1, r, h2 v H1 q⟩⟩
theorem unF_frz {os : List (Addr × Obj)} {G H2 : Hp} (g : ∀ b o, os.lookup b = some o → G b = none) (k : Same G H2) : Same G (unF os H2) := fun b o e => by
  cases z : os.lookup b with
  | none => rw [unF_out z]; exact k b o e
  | some o2 => rw [g b o2 z] at e; cases e
theorem lamC_ne {a : Addr} {L : LamW} (ps : Array Value) : LamC a L ≠ .tbl ps := fun z => by
  unfold LamC at z
  cases z
section
variable {X : Cx} {T : List (Addr × Str)} {c Pa : Addr} {q x : Str} {k kk n : Nat} {N1 N2 ns : List Str} {ix1 ix2 : List Nat} {due b1 b2 : Expr} {s1 s2 : Scope} {tdue tb1 tb2 : TE} {p pos p1 p2 : Pos}
/-- what a lambda does, once its cells stand still -/
theorem lam_does {P : Program} {w : World} {K : Frag} {mg : Str → Option Value} {base : Heap} {ce : List (Str × Addr)} {N : List Str} {σ : L2.St} {os : List (Addr × Obj)} {f c' : Addr} {Hc G H' : Hp} {d : Dat} {Q' : VK} {vs : List V} {N1 : List Str} {ix : List Nat} {b : Expr} {sc : Scope} {tb : TE}
    (S : LamS N1 ns sc N ix) (has : ∀ y ∈ ns, ∃ c, ce.lookup y = some c) (C : CellsAt ce N ns σ os) (cap : Caps σ ix vs) (hG : Same G Hc) (fresh : ∀ b o, os.lookup b = some o → Hc b = none)
    (hf : Hc f = some (LamC f ⟨c', q, b, sc, cloFrom ce sc.names []⟩)) (hco : Hc c' = some (CodeO c' q))
    (hb : ∀ (c' : Addr) (cl : List (Str × Addr)) (f : Addr) (A : Around) (outer : List Env) (s : Shared) (H : Hp), Room kk (A.deeper (lcEnv ⟨c', q, b, sc, cl⟩ s.heap.objs.size f)) → PE (lcCx P w K mg base A outer s H N1 ⟨c', q, b, sc, cl⟩ f) b tb)
    (ht : ∀ H2 Q2, Same G H2 → NewD H2 d Q2 → tb (vs.map some) H2 Q2) (k : Same (frzA os Hc) H') (nd : NewD H' d Q') : spLamC P w K mg base kk f ⟨c', q, b, sc, cloFrom ce sc.names []⟩ N1 H' Q' := by
  have gos : ∀ b o, os.lookup b = some o → G b = none := fun b o e => by
    cases z : G b with
    | none => rfl
    | some u =>
      have := hG b u z
      rw [fresh b o e] at this
      cases this
  have st : ∀ b o, Hc b = some o → H' b = some o := fun b o e => k b o (frzA_some fresh e)
  have hfree : ∀ y ∈ sc.names, y.2 = .free → ∃ c, ce.lookup y.1 = some c := fun y hy e => has _ (S.free y hy e)
  refine ⟨st _ _ hf, st _ _ hco, os, vs, tb, ⟨fun b o e => k b _ (frzA_in e), fun y c e => ?_, fun i y v e1 e2 => ?_, by rw [cap.1, ← S.len]⟩, fun A outer s H hr => hb c' _ f A outer s H hr, ht _ _ (unF_frz gos (hG.trans ?_)) ?_⟩
  · have hy : (y, NameKind.free) ∈ sc.names := by
      rcases L2.cloFrom_mem (PySem.mem_of_lookup e) with z | z
      · cases z
      · exact z.1
    obtain ⟨c2, o, v, a1, a2, a3⟩ := C.all y (S.free _ hy rfl)
    have := NdefX.clo_cm hfree e
    rw [a1] at this
    cases this
    exact ⟨o, v, a2, a3⟩
  · obtain ⟨j, hj, hN, hn, hfr⟩ := S.at' i y e1
    obtain ⟨c2, o, u, a1, a2, a3, a4⟩ := C.val y hn j v hN (cap.2 i j v hj e2)
    exact ⟨c2, o, u, NdefX.clo_has hfree hfr a1, a2, a3, a4⟩
  · exact fun b o e => st b o e
  · intro v H2 L s o nd' fr ho
    have in2 : ∀ b u, H2 b = some u → frzA os H2 b = some u := fun b u e => frzA_some ho e
    refine nd v _ L (fun b o' e => ?_) (o.keep _ ⟨fun b xs e => in2 _ _ e, fun b hb xs e => in2 _ _ e⟩) nd' fun b hb => ?_
    · cases z : os.lookup b with
      | none => exact in2 _ _ (s b o' (by rw [unF_out z]; exact e))
      | some o2 =>
        rw [frzA_in z]
        have := k b _ (frzA_in z)
        rw [e] at this
        exact this.symm
    · have h1 := fr b hb
      obtain ⟨xs, e⟩ := Ow.lists d o b hb
      cases z : os.lookup b with
      | none => rw [unF_out z] at h1; exact h1
      | some o2 => rw [ho b o2 z] at e; cases e
theorem pe_twice (D : Df X.prog X.w X.K X.mg X.base x k ["due", "first", "other"] (spTwice X.prog X.w X.K X.mg X.base (kk + 1) n)) (hns : ∀ y ∈ ns, X.env.scope.names.lookup y = some .cell) (hfn : ∀ x, X.fn x = true) (hr : Room k X.A) (hg : Gl X x) (hdue : PE X due tdue)
    (TB : TabB X.base X.mg c Pa) (hcode : X.env.code = .ref c) (hq : X.env.qual ++ "<lambda>" = q) (hm : (Pa, q) ∈ T) (hu : ∀ p ∈ T, p.1 = Pa → p.2 = q) (S1 : LamS N1 ns s1 X.N ix1) (S2 : LamS N2 ns s2 X.N ix2)
    (h1 : ∀ (c' : Addr) (cl : List (Str × Addr)) (f : Addr) (A : Around) (outer : List Env) (s : Shared) (H : Hp), Room kk (A.deeper (lcEnv ⟨c', q, b1, s1, cl⟩ s.heap.objs.size f)) → PE (lcCx X.prog X.w X.K X.mg X.base A outer s H N1 ⟨c', q, b1, s1, cl⟩ f) b1 tb1)
    (h2 : ∀ (c' : Addr) (cl : List (Str × Addr)) (f : Addr) (A : Around) (outer : List Env) (s : Shared) (H : Hp), Room kk (A.deeper (lcEnv ⟨c', q, b2, s2, cl⟩ s.heap.objs.size f)) → PE (lcCx X.prog X.w X.K X.mg X.base A outer s H N2 ⟨c', q, b2, s2, cl⟩ f) b2 tb2)
    (hdb : (x == ("__debug__" : Str)) = false := by decide) (he : starEach (due :: [.Lambda lamA0 b1 s1 p1, .Lambda lamA0 b2 s2 p2]) X.env = (false, eval due X.env) :: starEach [.Lambda lamA0 b1 s1 p1, .Lambda lamA0 b2 s2 p2] X.env := by rfl)
    (hpl : (backTo pos (starEach [.Lambda lamA0 b1 s1 p1, .Lambda lamA0 b2 s2 p2] X.env)).any (·.1) = false := by rfl) :
    PE X (.Call (.Name x p) [due, .Lambda lamA0 b1 s1 p1, .Lambda lamA0 b2 s2 p2] [] pos) (tTw T n tdue ix1 ix2 tb1 tb2) := by
  have fr1 : ∀ y ∈ s1.names, y.2 = .free → X.env.scope.names.lookup y.1 = some .cell ∨ X.env.scope.names.lookup y.1 = some .free := fun y hy e => .inl (hns _ (S1.free y hy e))
  have fr2 : ∀ y ∈ s2.names, y.2 = .free → X.env.scope.names.lookup y.1 = some .cell ∨ X.env.scope.names.lookup y.1 = some .free := fun y hy e => .inl (hns _ (S2.free y hy e))
  refine ⟨fun pins s σ H Q I h => ?_⟩
  have has : ∀ y ∈ ns, ∃ c, X.env.cells.lookup y = some c := fun y hy => I.ok.has y (.inl (hns y hy))
  have inj := I.ok.inj
  refine (pe_dfC (ns := ns) D hns hfn hr hg (pa_cons (PE_mono hdue) (pa_cons (pe_lamC (pos := p1) TB hcode hq hm hu fr1) (pa_cons (pe_lamC (pos := p2) TB hcode hq hm hu fr2) pa_nil) (by rfl)) he) hdb he hpl).run pins s σ H Q I ?_
  refine ⟨_, h, fun dv Hd ⟨tab, d, G, vs1, vs2, hG, hGt, hd, hdp, hfit, cap1, cap2, t1, t2, fin⟩ => ?_⟩
  refine ⟨tab, fun f1 c1 Ha e1 dm1 ta nf1 hc1 => ?_⟩
  have ta' : Tabs T (upd Ha f1 (LamC f1 ⟨c1, q, b1, s1, cloFrom X.env.cells s1.names []⟩)) := ta.ext fun b o e => by rw [upd_ne (ne_of_none e nf1)]; exact e
  refine ⟨ta', fun f2 c2 Hb e2 dm2 tb nf2 hc2 os C fresh => ?_⟩
  -- the heap with both lambdas
  have a1 : upd Ha f1 (LamC f1 ⟨c1, q, b1, s1, cloFrom X.env.cells s1.names []⟩) f1 = some (LamC f1 ⟨c1, q, b1, s1, cloFrom X.env.cells s1.names []⟩) := upd_same
  have hf1 := e2 _ _ a1 lamC_ne
  have hc1' := e2 c1 _ (by rw [upd_ne (ne_of_none hc1 nf1)]; exact hc1) codeO_ne
  have g1 : ExtN Hd Hb := fun b o e nt => e2 _ _ (by have := e1 b o e nt; rw [upd_ne (ne_of_none this nf1)]; exact this) nt
  have d1 : ∀ b, Hb b = none → Hd b = none := fun b e => dm1 b (by
    have := dm2 b e
    by_cases z : b = f1
    · rw [z, upd_same] at this
      cases this
    · rw [upd_ne z] at this
      exact this)
  have tb' : Tabs T (upd Hb f2 (LamC f2 ⟨c2, q, b2, s2, cloFrom X.env.cells s2.names []⟩)) := tb.ext fun b o e => by rw [upd_ne (ne_of_none e nf2)]; exact e
  have gg : ExtN Hd (upd Hb f2 (LamC f2 ⟨c2, q, b2, s2, cloFrom X.env.cells s2.names []⟩)) := fun b o e nt => by
    have := g1 b o e nt
    rw [upd_ne (ne_of_none this nf2)]
    exact this
  have dd : ∀ b, upd Hb f2 (LamC f2 ⟨c2, q, b2, s2, cloFrom X.env.cells s2.names []⟩) b = none → Hd b = none := fun b e => d1 b (by
    by_cases z : b = f2
    · rw [z, upd_same] at e
      cases e
    · rw [upd_ne z] at e
      exact e)
  have hf1c : upd Hb f2 (LamC f2 ⟨c2, q, b2, s2, cloFrom X.env.cells s2.names []⟩) f1 = some (LamC f1 ⟨c1, q, b1, s1, cloFrom X.env.cells s1.names []⟩) := by rw [upd_ne (ne_of_none hf1 nf2)]; exact hf1
  have hc1c : upd Hb f2 (LamC f2 ⟨c2, q, b2, s2, cloFrom X.env.cells s2.names []⟩) c1 = some (CodeO c1 q) := by rw [upd_ne (ne_of_none hc1' nf2)]; exact hc1'
  have hf2c : upd Hb f2 (LamC f2 ⟨c2, q, b2, s2, cloFrom X.env.cells s2.names []⟩) f2 = some (LamC f2 ⟨c2, q, b2, s2, cloFrom X.env.cells s2.names []⟩) := upd_same
  have hc2c : upd Hb f2 (LamC f2 ⟨c2, q, b2, s2, cloFrom X.env.cells s2.names []⟩) c2 = some (CodeO c2 q) := by rw [upd_ne (ne_of_none hc2 nf2)]; exact hc2
  generalize upd Hb f2 (LamC f2 ⟨c2, q, b2, s2, cloFrom X.env.cells s2.names []⟩) = Hc at tb' gg dd hf1c hc1c hf2c hc2c fresh ⊢
  have hGc : Same G Hc := fun b o e => gg b o (hG b o e) (hGt b o e)
  have hGz : Same G (frzA os Hc) := fun b o e => frzA_some fresh (hGc b o e)
  have LK : ∀ (c' : Addr) (b : Expr) (sc : Scope) (N' : List Str) (ix : List Nat), LamS N' ns sc X.N ix → LamK ⟨c', q, b, sc, cloFrom X.env.cells sc.names []⟩ := fun c' b sc N' ix S => by
    have hfree : ∀ y ∈ sc.names, y.2 = .free → ∃ c, X.env.cells.lookup y.1 = some c := fun y hy e => has _ (S.free y hy e)
    refine ⟨S.kind, S.co, S.gen, S.own, fun y hy e => ?_, fun x y c h1 h2 => inj x y c (NdefX.clo_cm hfree h1) (NdefX.clo_cm hfree h2)⟩
    obtain ⟨c3, h3⟩ := hfree y hy e
    refine ⟨c3, NdefX.clo_has hfree ?_ h3⟩
    obtain ⟨y1, y2⟩ := y
    have e : y2 = .free := e
    subst e
    exact hy
  refine ⟨dv, d, f1, f2, _, _, rfl, Dv.same hGz d hd, hdp, hfit, lam_calls (N := N1) (LK c1 b1 s1 N1 ix1 S1), lam_calls (N := N2) (LK c2 b2 s2 N2 ix2 S2), fun H' Q' k nd => ?_, fun H' Q' k nd => ?_, fun H' k => ?_⟩
  · exact lam_does S1 has C cap1 hGc fresh hf1c hc1c h1 t1 k nd
  · exact lam_does S2 has C cap2 hGc fresh hf2c hc2c h2 t2 k nd
  · have un : ∀ b o, Hc b = some o → unF os H' b = some o := fun b o e => by
      cases z : os.lookup b with
      | none => rw [unF_out z]; exact k b o (frzA_some fresh e)
      | some o2 => rw [fresh b o2 z] at e; cases e
    refine fin _ (fun b o e nt => un b o (gg b o e nt)) (fun b e => ?_) (tb'.ext un)
    refine dd b ?_
    cases z : Hc b with
    | none => rfl
    | some o => rw [un b o z] at e; cases e
end
end N4
set_option Elab.async false
set_option linter.all false
set_option maxRecDepth 100000
set_option maxHeartbeats 4000000
/-! _law_twice by data; the law's def -/
namespace N4
open PySem PySem.Spec PySem.W PyProof.Rows L2 LamX
open DL (Df TabsOf)
variable [TabsOf]
/-- the data of some slots -/
def capsD (D : DL.DSt) : List Nat → Option (List DL.Dat)
  | [] => some []
  | i :: ix => match D[i]?, capsD D ix with
    | some (some d), some l => some (d :: l)
    | _, _ => none
/-- lists and tuples alone -/
def restr (G : Hp) : Hp := fun b => match G b with
  | some (.lst xs) => some (.lst xs)
  | some (.tup xs) => some (.tup xs)
  | _ => none
theorem restr_le {G : Hp} : Same (restr G) G := fun b o e => by
  unfold restr at e
  split at e
  · rename_i h; rw [h]; exact e
  · rename_i h; rw [h]; exact e
  · cases e
theorem restr_nt {G : Hp} : ∀ b o, restr G b = some o → ∀ ps, o ≠ .tbl ps := fun b o e ps z => by
  unfold restr at e
  split at e
  · cases e; cases z
  · cases e; cases z
  · cases e
mutual
theorem dv_restr {W W' : DL.Wd} {G : Hp} : ∀ (d : DL.Dat) {v : V}, d.pl = true → DL.Dv G W d v → DL.Dv (restr G) W' d v
  | .non, _, _, h => by unfold DL.Dv at *; exact h
  | .bl b, _, _, h => by unfold DL.Dv at *; exact h
  | .int b, _, _, h => by unfold DL.Dv at *; exact h
  | .str b, _, _, h => by unfold DL.Dv at *; exact h
  | .lst l, v, e, h => by
    unfold DL.Dv at *
    unfold DL.Dat.pl at e
    obtain ⟨a, xs, rfl, h, r⟩ := h
    exact ⟨a, xs, rfl, by unfold restr; rw [h], dvs_restr l e r⟩
  | .tup l, v, e, h => by
    unfold DL.Dv at *
    unfold DL.Dat.pl at e
    obtain ⟨a, xs, rfl, h, r⟩ := h
    exact ⟨a, xs, rfl, by unfold restr; rw [h], dvs_restr l e r⟩
  | .own l, _, _, h => by unfold DL.Dv at h; exact h.elim
  | .strm, _, e, h => by cases e
  | .fn a, _, e, h => by cases e
theorem dvs_restr {W W' : DL.Wd} {G : Hp} : ∀ (l : List DL.Dat) {xs : List V}, DL.pls l = true → DL.Dvs G W l xs → DL.Dvs (restr G) W' l xs
  | [], _, _, h => by unfold DL.Dvs at *; exact h
  | d :: l, xs, e, h => by
    unfold DL.Dvs at *
    unfold DL.pls at e
    rw [Bool.and_eq_true] at e
    obtain ⟨x, r, rfl, h1, h2⟩ := h
    exact ⟨x, r, rfl, dv_restr d e.1 h1, dvs_restr l e.2 h2⟩
end
theorem caps_of {G : Hp} {W : DL.Wd} {D : DL.DSt} {σ : L2.St} (s : DL.SlD G W D σ) : ∀ {ix : List Nat} {l : List DL.Dat}, capsD D ix = some l → ∃ vs, Caps σ ix vs ∧ DL.Dvs G W l vs
  | [], l, e => by
    cases e
    exact ⟨[], ⟨rfl, fun j i v e => by simp at e⟩, DL.Dvs.nil⟩
  | i :: ix, l, e => by
    rw [capsD] at e
    split at e
    · rename_i d l' h1 h2
      cases e
      obtain ⟨v, e1, o⟩ := s.val i d h1
      obtain ⟨vs, c, os⟩ := caps_of s h2
      refine ⟨v :: vs, ⟨by rw [List.length_cons, List.length_cons, c.1], fun j i' v' e2 e3 => ?_⟩, DL.Dvs.cons o os⟩
      cases j with
      | zero => cases e2; cases e3; exact e1
      | succ j => exact c.2 j i' v' e2 e3
    · cases e
theorem sld_of {G : Hp} {W : DL.Wd} : ∀ {l : List DL.Dat} {vs : List V}, DL.Dvs G W l vs → DL.SlD G W (l.map some) (vs.map some)
  | [], vs, h => by
    unfold DL.Dvs at h
    subst h
    exact DL.SlD.nil
  | d :: l, vs, h => by
    unfold DL.Dvs at h
    obtain ⟨x, r, rfl, h1, h2⟩ := h
    exact (sld_of h2).consS h1
mutual
/-- all new: as a thing of its own -/
theorem ow_toN {H G : Hp} {W : DL.Wd} (le : Same G H) : ∀ (d : DL.Dat) {v : V} {L : List Addr}, d.clos = true → d.pl = true → DL.Ow H G W d v L → Ow H (toN d) v L
  | .non, _, _, _, _, h => by unfold DL.Ow at h; unfold toN Ow; exact h
  | .bl b, _, _, _, _, h => by unfold DL.Ow at h; unfold toN Ow; exact h
  | .int b, _, _, _, _, h => by unfold DL.Ow at h; unfold toN Ow; exact h
  | .str b, _, _, _, _, h => by unfold DL.Ow at h; unfold toN Ow; exact h
  | .lst l, v, L, c, _, h => by cases c
  | .tup l, v, L, c, e, h => by
    unfold DL.Ow at h
    unfold DL.Dat.pl at e
    unfold toN Ow
    obtain ⟨a, xs, rfl, h, r⟩ := h
    exact ⟨a, xs, rfl, le _ _ h, ows_toN le l c e r⟩
  | .own l, v, L, c, e, h => by
    unfold DL.Ow at h
    unfold DL.Dat.pl at e
    unfold toN Ow
    obtain ⟨a, xs, M, rfl, h, eL, r⟩ := h
    exact ⟨a, xs, M, rfl, h, eL, ows_toN le l c e r⟩
  | .strm, _, _, _, e, h => by cases e
  | .fn a, _, _, _, e, h => by cases e
theorem ows_toN {H G : Hp} {W : DL.Wd} (le : Same G H) : ∀ (l : List DL.Dat) {xs : List V} {L : List Addr}, DL.closs l = true → DL.pls l = true → DL.Ows H G W l xs L → Ows H (toNs l) xs L
  | [], _, _, _, _, h => by unfold DL.Ows at h; unfold toNs Ows; exact h
  | d :: l, xs, L, c, e, h => by
    unfold DL.closs at c
    unfold DL.pls at e
    rw [Bool.and_eq_true] at c e
    unfold DL.Ows at h
    unfold toNs Ows
    obtain ⟨x, r, M, N, e1, e2, h1, h2⟩ := h
    exact ⟨x, r, M, N, e1, e2, ow_toN le d c.1 e.1 h1, ows_toN le l c.2 e.2 h2⟩
end
mutual
theorem toN_sh : ∀ d : DL.Dat, toN d.sh = toN d
  | .non => rfl
  | .bl _ => rfl
  | .int _ => rfl
  | .str _ => rfl
  | .strm => rfl
  | .fn _ => rfl
  | .lst l => rfl
  | .own l => by unfold DL.Dat.sh toN; rw [toNs_sh l]
  | .tup l => by unfold DL.Dat.sh toN; rw [toNs_sh l]
theorem toNs_sh : ∀ l : List DL.Dat, toNs (DL.shs l) = toNs l
  | [] => rfl
  | d :: l => by unfold DL.shs toNs; rw [toN_sh d, toNs_sh l]
end
mutual
theorem fitD_sh {n : Nat} : ∀ d : DL.Dat, fitD n d.sh = fitD n d
  | .non => rfl
  | .bl _ => rfl
  | .int _ => rfl
  | .str _ => rfl
  | .strm => rfl
  | .fn _ => rfl
  | .lst l => rfl
  | .own l => by unfold DL.Dat.sh fitD; rw [DL.shs_len, fitDs_sh l]
  | .tup l => by unfold DL.Dat.sh fitD; rw [DL.shs_len, fitDs_sh l]
theorem fitDs_sh {n : Nat} : ∀ l : List DL.Dat, fitDs n (DL.shs l) = fitDs n l
  | [] => rfl
  | d :: l => by unfold DL.shs fitDs; rw [fitD_sh d, fitDs_sh l]
end
/-- a lambda's body, run where nothing is drawn -/
theorem body_ok {tb : TE} {fb : DL.DE} (rb : DL.RE tb fb) {G H2 : Hp} {l : List DL.Dat} {vs : List V} {d : Dat} {Q2 : VK} (o : DL.Dvs G ⟨false, 0, 0⟩ l vs) (le : Same G H2) (nt : ∀ b o, G b = some o → ∀ ps, o ≠ .tbl ps) (nd : NewD H2 d Q2) (e : ∀ k, fb (l.map some) k fun e _ => e.clos = true ∧ e.pl = true ∧ toN e = d) : tb (vs.map some) H2 Q2 := by
  refine rb ⟨false, 0, 0⟩ (l.map some) (vs.map some) H2 G 0 _ Q2 (sld_of o) ⟨le, (fun u => by cases u), (fun u => by cases u), (fun b hb => by cases hb.1), nt⟩ (e 0) fun d' n' v H' G' L g h' ow ⟨c, p, en⟩ => ?_
  subst en
  exact nd v H' L (fun b u eb => g.but b u eb (fun us => by cases us) (fun hb => by cases hb.1)) (ow_toN h'.le d' c p ow.ow) ow.nd fun b hb => (ow.fr b hb).1
/-- two lambdas that make what is due -/
def dTw (n is : Nat) (fdue : DL.DE) (ix1 ix2 : List Nat) (f1 f2 : DL.DE) : DL.DE := fun D m Q => D[is]? = some (some .strm) ∧ fdue D m fun d m1 => (dpD d.sh ≤ n ∧ fitD 900 d.sh = true) ∧ ∃ D1 D2, capsD D ix1 = some D1 ∧ capsD D ix2 = some D2 ∧ (DL.pls D1 = true ∧ DL.pls D2 = true) ∧
  (∀ k, f1 (D1.map some) k fun e _ => e.clos = true ∧ e.pl = true ∧ toN e = toN d.sh) ∧ (∀ k, f2 (D2.map some) k fun e _ => e.clos = true ∧ e.pl = true ∧ toN e = toN d.sh) ∧ Q (.bl true) m1
theorem re_tw {n is : Nat} {tdue tb1 tb2 : TE} {fdue f1 f2 : DL.DE} {ix1 ix2 : List Nat} (a : DL.RE tdue fdue) (b1 : DL.RE tb1 f1) (b2 : DL.RE tb2 f2) : DL.RE (tTw TabsOf.T n tdue ix1 ix2 tb1 tb2) (dTw n is fdue ix1 ix2 f1 f2) := fun W D σ H G m q Q s h ⟨es, e⟩ k => by
  have us : W.use = true := by
    obtain ⟨v, _, o⟩ := s.val is _ es
    unfold DL.Dv at o
    exact o.2
  refine a.s (q := fun d m1 => (dpD d ≤ n ∧ fitD 900 d = true) ∧ ∃ D1 D2, capsD D ix1 = some D1 ∧ capsD D ix2 = some D2 ∧ (DL.pls D1 = true ∧ DL.pls D2 = true) ∧ (∀ k, f1 (D1.map some) k fun e _ => e.clos = true ∧ e.pl = true ∧ toN e = toN d) ∧ (∀ k, f2 (D2.map some) k fun e _ => e.clos = true ∧ e.pl = true ∧ toN e = toN d) ∧ q (.bl true) m1) s h e ?_
  intro d m1 v Hd G1 g1 h1 ov ⟨⟨ed, ef⟩, D1, D2, c1, c2, ⟨p1, p2⟩, e1, e2, eq⟩
  obtain ⟨vs1, cap1, o1⟩ := caps_of s c1
  obtain ⟨vs2, cap2, o2⟩ := caps_of s c2
  obtain ⟨fit, pd⟩ := fit_toN d ef
  refine ⟨h1.tab us, toN d, restr G1, vs1, vs2, restr_le.trans h1.le, restr_nt, dv_toN (fun _ _ e => e) d pd (dv_restr (W' := ⟨false, 0, 0⟩) d pd ov), by rw [dp_toN]; exact ed, fit, cap1, cap2, fun H2 Q2 le nd => ?_, fun H2 Q2 le nd => ?_, fun H2 x dm tb => ?_⟩
  · exact body_ok b1 (dvs_restr D1 p1 (DL.Dvs.mono g1.grow _ o1)) le restr_nt nd e1
  · exact body_ok b2 (dvs_restr D2 p2 (DL.Dvs.mono g1.grow _ o2)) le restr_nt nd e2
  · obtain ⟨s0, ne, n0⟩ := h1.str us
    obtain ⟨ns, a, c, e1, e2, r⟩ := s0.ex
    refine k.dv (d := .bl true) (g1.trans ⟨fun b o e nt _ => x b o e (nt us), dm, DL.Same.refl, fun b o e => .inl e⟩) ⟨fun b o e => x b o (h1.le b o e) (h1.nt b o e), fun _ => ⟨⟨⟨ns, a, c, x _ _ e1 (fun ps z => by cases z), x _ _ e2 (fun ps z => by cases z), r⟩⟩, ne, n0⟩, fun _ => tb, h1.out, h1.nt⟩ (by unfold DL.Dv; rfl) eq
end N4
set_option Elab.async false
set_option linter.all false
set_option maxRecDepth 100000
set_option maxHeartbeats 4000000
/-! the law's def -/
namespace N4
open PySem PySem.Spec PySem.W PyProof.Rows L2 LamX
open DL (Df TabsOf StrAt)
variable [TabsOf]
def spLawT (K : PySem.W.Frag) : Sp := fun vs H Q _ => ∃ (a : Addr) (ns : List Int), vs = [.ref a] ∧ SqL K H a (ns.map V.int) ∧ ns.length ≤ 63 ∧ Tabs TabsOf.T H ∧ ∀ H', Q (.bl true) H'
theorem slo_rep {G H : Hp} {W : DL.Wd} : ∀ k : Nat, DL.SlO H G W (List.replicate k none) (List.replicate k none) []
  | 0 => by
    show DL.SlO H G W [] [] []
    unfold DL.SlO
    exact ⟨rfl, rfl⟩
  | k + 1 => by
    show DL.SlO H G W (none :: List.replicate k none) (none :: List.replicate k none) []
    unfold DL.SlO
    exact ⟨_, _, rfl, slo_rep k⟩
/-- the slots behind the first statement -/
def lawD (k : Nat) : DL.DSt := none :: some .strm :: List.replicate k none
theorem fn_law {P : Program} {w : World} {K : Frag} {mg : Str → Option Value} {base : Heap} {st : Stmt} {f c : Addr} {fd : FuncData} {N : List Str} {k m : Nat} {fb : DL.DS} (F : Fun K "law" "law" st f fd) (S : FnScope N ["script"] (defScope st)) (hc : fd.code = .ref c) (hN : N.length = m + 2)
    (hb : ∀ (A : Around) (outer : List Env) (s : Shared) (H : Hp) (E : XK), Room k (A.deeper (envOfC "law" (defScope st) s.heap.objs.size f (.ref c))) → ∃ t, PSs (cxOf CX0 P w K mg base N "law" (defScope st) f (.ref c) A outer s H E).nox (defBody st) (tSeq (tAsg (tCall (spStream K) [] E0 (tCons (tVar 0) tNil)) (gName 1)) t) ∧ DL.RS t fb)
    (hg : fb (DL.endD fun d _ => d = .bl true) (lawD m) 0) : FnOk P w K mg base CX0 (k + 1) f fd ["script"] (spLawT K) := by
  obtain ⟨oc, od, kV, doc, pm, an, cdv, ct, osl, rfl, lk, hcd⟩ := F.ex
  have ec : cdv = .ref c := hc
  subst ec
  refine fn_of lk hcd S (fun vs H Q E h => by obtain ⟨a, ns, rfl, _⟩ := h; rfl) fun A outer s H vs Q E hr hsp => ?_
  obtain ⟨a, ns, rfl, hS, h63, hT, kq⟩ := hsp
  obtain ⟨t, h1, h2⟩ := hb A outer s H E hr
  refine ⟨_, h1.nox, ?_⟩
  refine ⟨_, rfl, a, ns, rfl, hS, h63, fun p q H1 n1 n2 nsq S1 hSt => ?_⟩
  have hstart : (L2.start N [V.ref a]).set 1 (some (V.ref p)) = some (.ref a) :: some (.ref p) :: List.replicate m none := by
    unfold L2.start
    rw [hN]
    rfl
  show t _ ((L2.start N [V.ref a]).set 1 (some (V.ref p))) H1
  rw [hstart]
  obtain ⟨ms, x, y, e1, e2, _⟩ := hSt.ex
  refine h2 ⟨true, p, q⟩ H1 (fun _ => none) (DL.endD fun d _ => d = .bl true) _ (lawD m) 0 _ H1 (fun _ => none) [] ?_ ⟨?_, ?_, fun D n σ H G L S e => e.elim, fun D n σ H G L S e => e.elim⟩ ⟨DL.Go.refl, ⟨(fun b o e => by cases e), fun _ => ⟨hSt, nsq, by decide⟩, fun _ => hT.ext S1, (fun _ _ => rfl), (fun b o e => by cases e)⟩, ?_, List.nodup_nil, (fun b hb => by cases hb)⟩ hg
  · rintro b ⟨_, z⟩ e
    rcases z with z | z
    · have z : b = p := z
      rw [z, e1] at e; cases e
    · have z : b = q := z
      rw [z, e2] at e; cases e
  · intro D n σ H' G L S e
    cases e
  · intro d n v H' G' L g h' o e
    have e : d = .bl true := e
    subst e
    have := o.ow
    unfold DL.Ow at this
    rw [this.1]
    exact kq H'
  · unfold lawD DL.SlO
    refine ⟨_, _, rfl, ?_⟩
    unfold DL.SlO
    refine ⟨_, _, [], [], rfl, rfl, ?_, slo_rep m⟩
    unfold DL.Ow
    exact ⟨⟨rfl, rfl⟩, rfl⟩
end N4
set_option Elab.async false
set_option linter.all false
set_option maxRecDepth 100000
set_option maxHeartbeats 4000000
namespace M4
open PySem PySem.Spec PySem.W PyProof.Rows L2 LiI RZ DL
open N4 (top)
section
variable [TabsOf] {P : Program} {w : World} {K : PySem.W.Frag} {mg : Str → Option Value} {base : Heap}
/-- is_list -/
def b_1 : DS := (dRet [true] (dIsLT (dVar 0)))
def f_1 : DF := fun ds n q => b_1 (endD q) (startD ["thing"] ds) n
theorem sc_1 : FnScope ["thing"] ["thing"] (defScope (top 1)) := ⟨rfl, rfl, rfl, by decide, rfl, by decide +kernel, by decide +kernel⟩
theorem ok_1 {f : Addr} {fd : FuncData} (F : Fun K "is_list" "is_list" (top 1) f fd)   (m_isinstance : mg "isinstance" = none) (m_list : mg "list" = none) (m_tuple : mg "tuple" = none) : FnOk P w K mg base CX0 1 f fd ["thing"] (spD 1 f_1) :=
  fn_data (k := 0) (fb := b_1) F sc_1 rfl (fun cdv A outer s0 H E hr => ⟨_, (pss_one (ps_ret (pe_callB call_isiT (by rfl) m_isinstance (by decide +kernel) (pa_cons (pv 0) (pa_cons (pe_tup (pa_cons (pe_bltn (v := .ty "list") (by rfl) m_list (by decide +kernel) rfl) (pa_cons (pe_bltn (v := .ty "tuple") (by rfl) m_tuple (by decide +kernel) rfl) pa_nil))) pa_nil))))), (rs_ret [true] (re_isLT (re_var 0)))⟩) (fun _ _ _ _ _ h => h)
/-- is_whole -/
def b_2 : DS := (dRet [true] (dAndV (dIsi "int" (dVar 0)) (dNotV (dIsi "bool" (dVar 0)))))
def f_2 : DF := fun ds n q => b_2 (endD q) (startD ["thing"] ds) n
theorem sc_2 : FnScope ["thing"] ["thing"] (defScope (top 2)) := ⟨rfl, rfl, rfl, by decide, rfl, by decide +kernel, by decide +kernel⟩
theorem ok_2 {f : Addr} {fd : FuncData} (F : Fun K "is_whole" "is_whole" (top 2) f fd)   (m_bool : mg "bool" = none) (m_int : mg "int" = none) (m_isinstance : mg "isinstance" = none) : FnOk P w K mg base CX0 1 f fd ["thing"] (spD 1 f_2) :=
  fn_data (k := 0) (fb := b_2) F sc_2 rfl (fun cdv A outer s0 H E hr => ⟨_, (pss_one (ps_ret (pe_and (pe_callB call_isi (by rfl) m_isinstance (by decide +kernel) (pa_cons (pv 0) (pa_cons (pe_bltn (v := .ty "int") (by rfl) m_int (by decide +kernel) rfl) pa_nil))) (pe_one (pe_not (pe_callB call_isi (by rfl) m_isinstance (by decide +kernel) (pa_cons (pv 0) (pa_cons (pe_bltn (v := .ty "bool") (by rfl) m_bool (by decide +kernel) rfl) pa_nil)))))))), (rs_ret [true] (re_and (re_isi (T := "int") (by decide) (re_var 0)) (re_not (re_isi (T := "bool") (by decide) (re_var 0)))))⟩) (fun _ _ _ _ _ h => h)
/-- is_number -/
def b_3 : DS := (dRet [true] (dAndV (dCall 1 f_2 (dCons (dVar 0) dNil)) (dOp (dI0 fun i j => .bl (decide (j ≤ i))) (dVar 0) (dC (.int 0)))))
def f_3 : DF := fun ds n q => b_3 (endD q) (startD ["thing"] ds) n
theorem sc_3 : FnScope ["thing"] ["thing"] (defScope (top 3)) := ⟨rfl, rfl, rfl, by decide, rfl, by decide +kernel, by decide +kernel⟩
theorem ok_3 {f : Addr} {fd : FuncData} (F : Fun K "is_number" "is_number" (top 3) f fd) (D_is_whole : Df P w K mg base "is_whole" 1 ["thing"] (spD 1 f_2))   : FnOk P w K mg base CX0 2 f fd ["thing"] (spD 1 f_3) :=
  fn_data (k := 1) (fb := b_3) F sc_3 rfl (fun cdv A outer s0 H E hr => ⟨_, (pss_one (ps_ret (pe_and (pe_df D_is_whole (hr.mono (by decide)) (by rfl) (pa_cons (pv 0) pa_nil)) (pe_one (pe_cmpR op_ge (pv 0) pe_int (nomark _)))))), (rs_ret [true] (re_and (re_call (ra_cons (re_var 0) ra_nil)) (re_op opd_b0 (re_var 0) (re_int 0))))⟩) (fun _ _ _ _ _ h => h)
/-- is_below -/
def b_4 : DS := (dRet [true, true] (dAndV (dCall 1 f_3 (dCons (dVar 0) dNil)) (dOp (dI0 fun i j => .bl (decide (i < j))) (dVar 0) (dVar 1))))
def f_4 : DF := fun ds n q => b_4 (endD q) (startD ["thing", "most"] ds) n
theorem sc_4 : FnScope ["thing", "most"] ["thing", "most"] (defScope (top 4)) := ⟨rfl, rfl, rfl, by decide, rfl, by decide +kernel, by decide +kernel⟩
theorem ok_4 {f : Addr} {fd : FuncData} (F : Fun K "is_below" "is_below" (top 4) f fd) (D_is_number : Df P w K mg base "is_number" 2 ["thing"] (spD 1 f_3))   : FnOk P w K mg base CX0 3 f fd ["thing", "most"] (spD 2 f_4) :=
  fn_data (k := 2) (fb := b_4) F sc_4 rfl (fun cdv A outer s0 H E hr => ⟨_, (pss_one (ps_ret (pe_and (pe_df D_is_number (hr.mono (by decide)) (by rfl) (pa_cons (pv 0) pa_nil)) (pe_one (pe_cmpR op_lt (pv 0) (pv 1) (nomark _)))))), (rs_ret [true, true] (re_and (re_call (ra_cons (re_var 0) ra_nil)) (re_op opd_b0 (re_var 0) (re_var 1))))⟩) (fun _ _ _ _ _ h => h)
/-- is_row -/
def b_5 : DS := (dRet [true, true] (dAndV (dCall 1 f_1 (dCons (dVar 0) dNil)) (dOp dEq (dCB dLen (dCons (dVar 0) dNil)) (dVar 1))))
def f_5 : DF := fun ds n q => b_5 (endD q) (startD ["thing", "many"] ds) n
theorem sc_5 : FnScope ["thing", "many"] ["thing", "many"] (defScope (top 5)) := ⟨rfl, rfl, rfl, by decide, rfl, by decide +kernel, by decide +kernel⟩
theorem ok_5 {f : Addr} {fd : FuncData} (F : Fun K "is_row" "is_row" (top 5) f fd) (D_is_list : Df P w K mg base "is_list" 1 ["thing"] (spD 1 f_1))  (m_len : mg "len" = none) : FnOk P w K mg base CX0 2 f fd ["thing", "many"] (spD 2 f_5) :=
  fn_data (k := 1) (fb := b_5) F sc_5 rfl (fun cdv A outer s0 H E hr => ⟨_, (pss_one (ps_ret (pe_and (pe_df D_is_list (hr.mono (by decide)) (by rfl) (pa_cons (pv 0) pa_nil)) (pe_one (pe_cmpR (op_eqs hr.units) (pe_callB cr_len (by rfl) m_len (by decide +kernel) (pa_cons (pv 0) pa_nil)) (pv 1) (nomark _)))))), (rs_ret [true, true] (re_and (re_call (ra_cons (re_var 0) ra_nil)) (re_op opd_eq (re_cb cbd_len (ra_cons (re_var 0) ra_nil)) (re_var 1))))⟩) (fun _ _ _ _ _ h => h)
/-- need_width -/
def b_15 : DS := (dSeq (dIfS [true] (dOr (dNot (dTest (dCall 1 f_2 (dCons (dVar 0) dNil)))) (dNot (dTest (dChain (dI0 fun i j => .bl (decide (i ≤ j))) (dI0 fun i j => .bl (decide (i ≤ j))) (dC (.int 4)) (dVar 0) (dC (.int 16)))))) dNever dNext) (dRetV 0))
def f_15 : DF := fun ds n q => b_15 (endD q) (startD ["width"] ds) n
theorem sc_15 : FnScope ["width"] ["width"] (defScope (top 15)) := ⟨rfl, rfl, rfl, by decide, rfl, by decide +kernel, by decide +kernel⟩
theorem ok_15 {f : Addr} {fd : FuncData} (F : Fun K "need_width" "need_width" (top 15) f fd) (D_is_whole : Df P w K mg base "is_whole" 1 ["thing"] (spD 1 f_2))   : FnOk P w K mg base CX0 2 f fd ["width"] (spD 1 f_15) :=
  fn_data (k := 1) (fb := b_15) F sc_15 rfl (fun cdv A outer s0 H E hr => ⟨_, (pss_cons (ps_if (PW.pt (pw_or (pt_not (pt_val (pe_df D_is_whole (hr.mono (by decide)) (by rfl) (pa_cons (pv 0) pa_nil)))) (pw_or1 (pt_not (pt_chain op_le op_le pe_int (pv 0) pe_int))))) (pss_one ps_never) pss_nil) (pss_one (ps_ret (pv 0)))), (rs_seq (rs_if [true] (rt_or (rt_not (rt_b (re_call (ra_cons (re_var 0) ra_nil)))) (rt_not (rt_test (re_chain opd_b0 opd_b0 (re_int 4) (re_var 0) (re_int 16))))) rs_never rs_next) (rs_retV 0))⟩) (fun _ _ _ _ _ h => h)
/-- ones -/
def b_16 : DS := (dRet [true] (dOp (dI0 fun i j => .int (i - j)) (dOp (dI CPow fun i j => .int (i * 2 ^ j.toNat)) (dC (.int 1)) (dVar 0)) (dC (.int 1))))
def f_16 : DF := fun ds n q => b_16 (endD q) (startD ["width"] ds) n
theorem sc_16 : FnScope ["width"] ["width"] (defScope (top 16)) := ⟨rfl, rfl, rfl, by decide, rfl, by decide +kernel, by decide +kernel⟩
theorem ok_16 {f : Addr} {fd : FuncData} (F : Fun K "ones" "ones" (top 16) f fd)    : FnOk P w K mg base CX0 1 f fd ["width"] (spD 1 f_16) :=
  fn_data (k := 0) (fb := b_16) F sc_16 rfl (fun cdv A outer s0 H E hr => ⟨_, (pss_one (ps_ret (pe_op op_sub (pe_op op_shl pe_int (pv 0)) pe_int))), (rs_ret [true] (re_op opd_i0 (re_op opd_i (re_int 1) (re_var 0)) (re_int 1)))⟩) (fun _ _ _ _ _ h => h)
/-- are_words -/
def b_17 : DS := (dRet [true, true, true] (dAndV (dCall 1 f_1 (dCons (dVar 1) dNil)) (dCB dAll (dCons (dLc (dItems (dVar 1)) (dgName 2) dYes (dCall 2 f_4 (dCons (dVar 2) (dCons (dOp (dI CPow fun i j => .int (i * 2 ^ j.toNat)) (dC (.int 1)) (dVar 0)) dNil))) [2]) dNil))))
def f_17 : DF := fun ds n q => b_17 (endD q) (startD ["width", "thing", "one"] ds) n
theorem sc_17 : FnScope ["width", "thing", "one"] ["width", "thing"] (defScope (top 17)) := ⟨rfl, rfl, rfl, by decide, rfl, by decide +kernel, by decide +kernel⟩
theorem ok_17 {f : Addr} {fd : FuncData} (F : Fun K "are_words" "are_words" (top 17) f fd) (D_is_list : Df P w K mg base "is_list" 1 ["thing"] (spD 1 f_1)) (D_is_below : Df P w K mg base "is_below" 3 ["thing", "most"] (spD 2 f_4))  (m_all : mg "all" = none) : FnOk P w K mg base CX0 4 f fd ["width", "thing"] (spD 2 f_17) :=
  fn_data (k := 3) (fb := b_17) F sc_17 rfl (fun cdv A outer s0 H E hr => ⟨_, (pss_one (ps_ret (pe_and (pe_df D_is_list (hr.mono (by decide)) (by rfl) (pa_cons (pv 1) pa_nil)) (pe_one (pe_callB (cr_all rfl) (by rfl) m_all (by decide +kernel) (pa_cons (pe_lc (own := [("one", 2)]) (g := (gName 2)) (tt := tYes) (te := (tCall (spD 2 f_4) [] E0 (tCons (tVar 2) (tCons (tOp (rI CPow fun i j => .int (i * 2 ^ j.toNat)) (tC (.int 1)) (tVar 0)) tNil)))) rfl sc_17.nd (pi_lt (pv 1)) (blkOk_by (own := [("one", 2)]) (N := ["width", "thing", "one"]) (sc := defScope (top 17)) (by decide +kernel)) (fun _ _ _ _ _ => (pg_name (i := 2) sc_17.nd rfl (Or.inl rfl))) (fun _ _ _ _ _ => pts_nil) (fun _ _ _ _ _ => (pe_df D_is_below (hr.mono (by decide)) (by rfl) (pa_cons (pv 2) (pa_cons (pe_op op_shl pe_int (pv 0)) pa_nil))))) pa_nil)))))), (rs_ret [true, true, true] (re_and (re_call (ra_cons (re_var 1) ra_nil)) (re_cb cbd_all (ra_cons (re_lc (vs := [2]) (ri_lt (re_var 1)) (rg_name 2 (by decide)) rt_yes (re_call (ra_cons (re_var 2) (ra_cons (re_op opd_i (re_int 1) (re_var 0)) ra_nil)))) ra_nil))))⟩) (fun _ _ _ _ _ h => h)
/-- sums_by -/
def b_18 : DS := (dSeq (dPar3 2 3 4 [true, false, false, false, false, false] (dCons (dC (.int 0)) (dCons (dC (.int 0)) (dCons (dCall 1 f_16 (dCons (dVar 0) dNil)) dNil)))) (dSeq (dFor [false, true, false, false, false, false] (dItems (dVar 1)) (dgName 5) (dSeq (dSet 2 [false, false, true, false, true, true] (dOp (dI (fun _ j => 0 < j) fun i j => .int (i % j)) (dOp dPlus (dVar 2) (dVar 5)) (dVar 4))) (dSet 3 [false, false, true, true, true, false] (dOp (dI (fun _ j => 0 < j) fun i j => .int (i % j)) (dOp dPlus (dVar 3) (dVar 2)) (dVar 4))))) (dRet [false, false, true, true, false, false] (dTup (dCons (dVar 2) (dCons (dVar 3) dNil))))))
def f_18 : DF := fun ds n q => b_18 (endD q) (startD ["width", "words", "first", "second", "most", "word"] ds) n
theorem sc_18 : FnScope ["width", "words", "first", "second", "most", "word"] ["width", "words"] (defScope (top 18)) := ⟨rfl, rfl, rfl, by decide, rfl, by decide +kernel, by decide +kernel⟩
theorem ok_18 {f : Addr} {fd : FuncData} (F : Fun K "sums_by" "sums_by" (top 18) f fd) (D_ones : Df P w K mg base "ones" 1 ["width"] (spD 1 f_16))   : FnOk P w K mg base CX0 2 f fd ["width", "words"] (spD 2 f_18) :=
  fn_data (k := 1) (fb := b_18) F sc_18 rfl (fun cdv A outer s0 H E hr => ⟨_, (pss_cons (ps_par3 (i := 2) (j := 3) (l := 4) (by rfl) sc_18.nd rfl rfl rfl (by decide) (by decide) (by decide) rfl rfl rfl (pa_cons pe_int (pa_cons pe_int (pa_cons (pe_df D_ones (hr.mono (by decide)) (by rfl) (pa_cons (pv 0) pa_nil)) pa_nil))) (by rfl)) (pss_cons (ps_for PassesOwn.never rfl (pi_lt (pv 1)) (pg_name (i := 5) sc_18.nd rfl (Or.inl rfl)) (pss_cons (ps_set (i := 2) sc_18.nd rfl (Or.inl rfl) (pe_op op_mod (pe_op op_plus (pv 2) (pv 5)) (pv 4))) (pss_one (ps_set (i := 3) sc_18.nd rfl (Or.inl rfl) (pe_op op_mod (pe_op op_plus (pv 3) (pv 2)) (pv 4)))))) (pss_one (ps_ret (pe_tup (pa_cons (pv 2) (pa_cons (pv 3) pa_nil))))))), (rs_seq (rs_par3 2 3 4 [true, false, false, false, false, false] (ra_cons (re_int 0) (ra_cons (re_int 0) (ra_cons (re_call (ra_cons (re_var 0) ra_nil)) ra_nil)))) (rs_seq (rs_for [false, true, false, false, false, false] (ri_lt (re_var 1)) (rgo_name 5) (rs_seq (rs_set 2 [false, false, true, false, true, true] (re_op opd_i (re_op opd_plus (re_var 2) (re_var 5)) (re_var 4))) (rs_set 3 [false, false, true, true, true, false] (re_op opd_i (re_op opd_plus (re_var 3) (re_var 2)) (re_var 4))))) (rs_ret [false, false, true, true, false, false] (re_tup (ra_cons (re_var 2) (ra_cons (re_var 3) ra_nil))))))⟩) (fun _ _ _ _ _ h => h)
/-- why_not -/
def b_19 : DS := (dSeq (dIfS [true, true, false, false, false, false, false, false] (dOr (dNot (dTest (dCall 2 f_17 (dCons (dVar 0) (dCons (dVar 1) dNil))))) (dTest (dOp (dI0 fun i j => .bl (decide (i < j))) (dCB dLen (dCons (dVar 1) dNil)) (dC (.int 5))))) (dRet [false, false, false, false, false, false, false, false] (dC (.str "list"))) dNext) (dSeq (dAsg [false, true, false, false, false, false, false, false] (dSl (dVar 1) dNoPart (dPart (dC (.int 5)))) (dgSeq 5 (dgCons (dgName 2) (dgCons (dgName 3) (dgCons (dgName 4) (dgCons (dgName 5) (dgCons (dgName 6) dgNil))))))) (dSeq (dSet 7 [false, true, false, false, false, false, false, false] (dCB dList (dCons (dSl (dVar 1) (dPart (dC (.int 5))) dNoPart) dNil))) (dSeq (dIfS [true, false, true, false, false, false, false, false] (dTest (dOp dEq (dVar 2) (dCall 1 f_16 (dCons (dVar 0) dNil)))) (dRet [false, false, false, false, false, false, false, false] (dC (.str "version"))) dNext) (dSeq (dIfS [true, false, false, true, false, false, false, true] (dOr (dTest (dOp dNe (dVar 3) (dCB dLen (dCons (dVar 7) dNil)))) (dTest (dOp dEq (dVar 3) (dCall 1 f_16 (dCons (dVar 0) dNil))))) (dRet [false, false, false, false, false, false, false, false] (dC (.str "many"))) dNext) (dSeq (dIfS [true, false, false, true, true, false, false, false] (dOr (dTest (dOp (dI0 fun i j => .bl (decide (j ≤ i))) (dVar 4) (dVar 0))) (dAnd (dTest (dOp dEq (dVar 3) (dC (.int 0)))) (dTest (dOp (dI0 fun i j => .bl (decide (j < i))) (dVar 4) (dC (.int 0)))))) (dRet [false, false, false, false, false, false, false, false] (dC (.str "spare"))) dNext) (dSeq (dIfS [false, false, false, false, true, false, false, true] (dAnd (dTruth (dVar 7)) (dTruth (dOp (dI0 fun i j => .int (Builtin.bitAnd i j)) (dOp dIx (dVar 7) (dUn (dU fun i => .int (-i)) (dC (.int 1)))) (dOp (dI0 fun i j => .int (i - j)) (dOp (dI CPow fun i j => .int (i * 2 ^ j.toNat)) (dC (.int 1)) (dVar 4)) (dC (.int 1)))))) (dRet [false, false, false, false, false, false, false, false] (dC (.str "rest"))) dNext) (dRet [true, false, true, true, true, true, true, true] (dIf (dTest (dOp dEq (dTup (dCons (dVar 5) (dCons (dVar 6) dNil))) (dCall 2 f_18 (dCons (dVar 0) (dCons (dLst (dCons (dVar 2) (dCons (dVar 3) (dCons (dVar 4) (dStar (dVar 7) dNil))))) dNil))))) (dC .non) (dC (.str "sums")))))))))))
def f_19 : DF := fun ds n q => b_19 (endD q) (startD ["width", "thing", "version", "many", "spare", "first", "second", "body"] ds) n
theorem sc_19 : FnScope ["width", "thing", "version", "many", "spare", "first", "second", "body"] ["width", "thing"] (defScope (top 19)) := ⟨rfl, rfl, rfl, by decide, rfl, by decide +kernel, by decide +kernel⟩
theorem ok_19 {f : Addr} {fd : FuncData} (F : Fun K "why_not" "why_not" (top 19) f fd) (D_are_words : Df P w K mg base "are_words" 4 ["width", "thing"] (spD 2 f_17)) (D_ones : Df P w K mg base "ones" 1 ["width"] (spD 1 f_16)) (D_sums_by : Df P w K mg base "sums_by" 2 ["width", "words"] (spD 2 f_18))  (m_len : mg "len" = none) (m_list : mg "list" = none) : FnOk P w K mg base CX0 5 f fd ["width", "thing"] (spD 2 f_19) :=
  fn_data (k := 4) (fb := b_19) F sc_19 rfl (fun cdv A outer s0 H E hr => ⟨_, (pss_cons (ps_if (PW.pt (pw_or (pt_not (pt_val (pe_df D_are_words (hr.mono (by decide)) (by rfl) (pa_cons (pv 0) (pa_cons (pv 1) pa_nil))))) (pw_or1 (pt_cmpR op_lt (pe_callB cr_len (by rfl) m_len (by decide +kernel) (pa_cons (pv 1) pa_nil)) pe_int (nomark _))))) (pss_one (ps_ret pe_str)) pss_nil) (pss_cons (ps_asg (pe_slice sl_all (pv 1) po_none (po_some pe_int)) (pg_or (pg_tup rfl (pgs_cons (pg_name (i := 2) sc_19.nd rfl (Or.inl rfl)) (pgs_cons (pg_name (i := 3) sc_19.nd rfl (Or.inl rfl)) (pgs_cons (pg_name (i := 4) sc_19.nd rfl (Or.inl rfl)) (pgs_cons (pg_name (i := 5) sc_19.nd rfl (Or.inl rfl)) (pgs_cons (pg_name (i := 6) sc_19.nd rfl (Or.inl rfl)) pgs_nil)))))) (pg_lst rfl (pgs_cons (pg_name (i := 2) sc_19.nd rfl (Or.inl rfl)) (pgs_cons (pg_name (i := 3) sc_19.nd rfl (Or.inl rfl)) (pgs_cons (pg_name (i := 4) sc_19.nd rfl (Or.inl rfl)) (pgs_cons (pg_name (i := 5) sc_19.nd rfl (Or.inl rfl)) (pgs_cons (pg_name (i := 6) sc_19.nd rfl (Or.inl rfl)) pgs_nil)))))))) (pss_cons (ps_set (i := 7) sc_19.nd rfl (Or.inl rfl) (pe_callTy call_list_of (by rfl) m_list (by decide +kernel) (pa_cons (pe_slice sl_all (pv 1) (po_some pe_int) po_none) pa_nil))) (pss_cons (ps_if (pt_cmpR (op_eqs hr.units) (pv 2) (pe_df D_ones (hr.mono (by decide)) (by rfl) (pa_cons (pv 0) pa_nil)) (nomark _)) (pss_one (ps_ret pe_str)) pss_nil) (pss_cons (ps_if (PW.pt (pw_or (pt_cmpR (op_nes hr.units) (pv 3) (pe_callB cr_len (by rfl) m_len (by decide +kernel) (pa_cons (pv 7) pa_nil)) (nomark _)) (pw_or1 (pt_cmpR (op_eqs hr.units) (pv 3) (pe_df D_ones (hr.mono (by decide)) (by rfl) (pa_cons (pv 0) pa_nil)) (nomark _))))) (pss_one (ps_ret pe_str)) pss_nil) (pss_cons (ps_if (PW.pt (pw_or (pt_cmpR op_ge (pv 4) (pv 0) (nomark _)) (pw_or1 (PW.pt (pw_and (pt_cmpR (op_eqs hr.units) (pv 3) pe_int (nomark _)) (pw_and1 (pt_cmpR op_gt (pv 4) pe_int (nomark _)))))))) (pss_one (ps_ret pe_str)) pss_nil) (pss_cons (ps_if (PW.pt (pw_and (pt_truth (pv 7) (by intro _; rfl)) (pw_and1 (pt_truth (pe_op op_and (pe_ix ix_seq (pv 7) (pe_un un_neg pe_int) (fun _ _ => rfl)) (pe_op op_sub (pe_op op_shl pe_int (pv 4)) pe_int)) (by intro _; rfl))))) (pss_one (ps_ret pe_str)) pss_nil) (pss_one (ps_ret (pe_ifExp (pt_cmpR (op_eqs hr.units) (pe_tup (pa_cons (pv 5) (pa_cons (pv 6) pa_nil))) (pe_df D_sums_by (hr.mono (by decide)) (by rfl) (pa_cons (pv 0) (pa_cons (pe_lst (pa_cons (pv 2) (pa_cons (pv 3) (pa_cons (pv 4) (StX.pa_star (pv 7) pa_nil))))) pa_nil))) (nomark _)) pe_non pe_str)))))))))), (rs_seq (rs_if [true, true, false, false, false, false, false, false] (rt_or (rt_not (rt_b (re_call (ra_cons (re_var 0) (ra_cons (re_var 1) ra_nil))))) (rt_test (re_op opd_b0 (re_cb cbd_len (ra_cons (re_var 1) ra_nil)) (re_int 5)))) (rs_ret [false, false, false, false, false, false, false, false] (re_str "list")) rs_next) (rs_seq (rs_asg [false, true, false, false, false, false, false, false] (re_sl (re_var 1) ro_none (ro_some (re_int 5))) (rgo_seq (rgos_cons (rgo_name 2) (rgos_cons (rgo_name 3) (rgos_cons (rgo_name 4) (rgos_cons (rgo_name 5) (rgos_cons (rgo_name 6) rgos_nil))))))) (rs_seq (rs_set 7 [false, true, false, false, false, false, false, false] (re_cb cbd_list (ra_cons (re_sl (re_var 1) (ro_some (re_int 5)) ro_none) ra_nil))) (rs_seq (rs_if [true, false, true, false, false, false, false, false] (rt_test (re_op opd_eq (re_var 2) (re_call (ra_cons (re_var 0) ra_nil)))) (rs_ret [false, false, false, false, false, false, false, false] (re_str "version")) rs_next) (rs_seq (rs_if [true, false, false, true, false, false, false, true] (rt_or (rt_test (re_op opd_ne (re_var 3) (re_cb cbd_len (ra_cons (re_var 7) ra_nil)))) (rt_test (re_op opd_eq (re_var 3) (re_call (ra_cons (re_var 0) ra_nil))))) (rs_ret [false, false, false, false, false, false, false, false] (re_str "many")) rs_next) (rs_seq (rs_if [true, false, false, true, true, false, false, false] (rt_or (rt_test (re_op opd_b0 (re_var 4) (re_var 0))) (rt_and (rt_test (re_op opd_eq (re_var 3) (re_int 0))) (rt_test (re_op opd_b0 (re_var 4) (re_int 0))))) (rs_ret [false, false, false, false, false, false, false, false] (re_str "spare")) rs_next) (rs_seq (rs_if [false, false, false, false, true, false, false, true] (rt_and (rt_truth (re_var 7)) (rt_truth (re_op opd_i0 (re_op opd_ix (re_var 7) (re_un und_i (re_int 1))) (re_op opd_i0 (re_op opd_i (re_int 1) (re_var 4)) (re_int 1))))) (rs_ret [false, false, false, false, false, false, false, false] (re_str "rest")) rs_next) (rs_ret [true, false, true, true, true, true, true, true] (re_if (rt_test (re_op opd_eq (re_tup (ra_cons (re_var 5) (ra_cons (re_var 6) ra_nil))) (re_call (ra_cons (re_var 0) (ra_cons (re_lst (ra_cons (re_var 2) (ra_cons (re_var 3) (ra_cons (re_var 4) (ra_star (re_var 7) ra_nil))))) ra_nil))))) re_non (re_str "sums"))))))))))⟩) (fun _ _ _ _ _ h => h)
/-- kept_store -/
def b_21 : DS := (dSeq (dIfS [true, false] (dOr (dNot (dTest (dCall 2 f_5 (dCons (dVar 0) (dCons (dC (.int 3)) dNil))))) (dOr (dNot (dTest (dCall 1 f_2 (dCons (dOp dIx (dVar 0) (dC (.int 0))) dNil)))) (dNot (dTest (dChain (dI0 fun i j => .bl (decide (i ≤ j))) (dI0 fun i j => .bl (decide (i ≤ j))) (dC (.int 4)) (dOp dIx (dVar 0) (dC (.int 0))) (dC (.int 16))))))) (dRet [false, false] (dC .non)) dNext) (dSeq (dIfS [true, false] (dOr (dNot (dTest (dCall 1 f_2 (dCons (dOp dIx (dVar 0) (dC (.int 1))) dNil)))) (dOr (dTest (dOp (dI0 fun i j => .bl (decide (i < j))) (dOp dIx (dVar 0) (dC (.int 1))) (dC (.int 1)))) (dNot (dTest (dCall 2 f_17 (dCons (dOp dIx (dVar 0) (dC (.int 0))) (dCons (dOp dIx (dVar 0) (dC (.int 2))) dNil))))))) (dRet [false, false] (dC .non)) dNext) (dSeq (dSet 1 [true, false] (dCB dLen (dCons (dOp dIx (dVar 0) (dC (.int 2))) dNil))) (dRet [true, true] (dIf (dAnd (dTest (dOp (dI0 fun i j => .bl (decide (j < i))) (dVar 1) (dC (.int 0)))) (dTest (dOp dEq (dOp (dI (fun _ j => 0 < j) fun i j => .int (i % j)) (dVar 1) (dOp dIx (dVar 0) (dC (.int 1)))) (dC (.int 0))))) (dTup (dCons (dOp dIx (dVar 0) (dC (.int 0))) (dCons (dOp dIx (dVar 0) (dC (.int 1))) (dCons (dCB dList (dCons (dOp dIx (dVar 0) (dC (.int 2))) dNil)) dNil)))) (dC .non))))))
def f_21 : DF := fun ds n q => b_21 (endD q) (startD ["thing", "many"] ds) n
theorem sc_21 : FnScope ["thing", "many"] ["thing"] (defScope (top 21)) := ⟨rfl, rfl, rfl, by decide, rfl, by decide +kernel, by decide +kernel⟩
theorem ok_21 {f : Addr} {fd : FuncData} (F : Fun K "kept_store" "kept_store" (top 21) f fd) (D_is_row : Df P w K mg base "is_row" 2 ["thing", "many"] (spD 2 f_5)) (D_is_whole : Df P w K mg base "is_whole" 1 ["thing"] (spD 1 f_2)) (D_are_words : Df P w K mg base "are_words" 4 ["width", "thing"] (spD 2 f_17))  (m_len : mg "len" = none) (m_list : mg "list" = none) : FnOk P w K mg base CX0 5 f fd ["thing"] (spD 1 f_21) :=
  fn_data (k := 4) (fb := b_21) F sc_21 rfl (fun cdv A outer s0 H E hr => ⟨_, (pss_cons (ps_if (PW.pt (pw_or (pt_not (pt_val (pe_df D_is_row (hr.mono (by decide)) (by rfl) (pa_cons (pv 0) (pa_cons pe_int pa_nil))))) (pw_or (pt_not (pt_val (pe_df D_is_whole (hr.mono (by decide)) (by rfl) (pa_cons (pe_ix ix_seq (pv 0) pe_int (fun _ _ => rfl)) pa_nil)))) (pw_or1 (pt_not (pt_chain op_le op_le pe_int (pe_ix ix_seq (pv 0) pe_int (fun _ _ => rfl)) pe_int)))))) (pss_one (ps_ret pe_non)) pss_nil) (pss_cons (ps_if (PW.pt (pw_or (pt_not (pt_val (pe_df D_is_whole (hr.mono (by decide)) (by rfl) (pa_cons (pe_ix ix_seq (pv 0) pe_int (fun _ _ => rfl)) pa_nil)))) (pw_or (pt_cmpR op_lt (pe_ix ix_seq (pv 0) pe_int (fun _ _ => rfl)) pe_int (nomark _)) (pw_or1 (pt_not (pt_val (pe_df D_are_words (hr.mono (by decide)) (by rfl) (pa_cons (pe_ix ix_seq (pv 0) pe_int (fun _ _ => rfl)) (pa_cons (pe_ix ix_seq (pv 0) pe_int (fun _ _ => rfl)) pa_nil))))))))) (pss_one (ps_ret pe_non)) pss_nil) (pss_cons (ps_set (i := 1) sc_21.nd rfl (Or.inl rfl) (pe_callB cr_len (by rfl) m_len (by decide +kernel) (pa_cons (pe_ix ix_seq (pv 0) pe_int (fun _ _ => rfl)) pa_nil))) (pss_one (ps_ret (pe_ifExp (PW.pt (pw_and (pt_cmpR op_gt (pv 1) pe_int (nomark _)) (pw_and1 (pt_cmpR (op_eqs hr.units) (pe_op op_mod (pv 1) (pe_ix ix_seq (pv 0) pe_int (fun _ _ => rfl))) pe_int (nomark _))))) (pe_tup (pa_cons (pe_ix ix_seq (pv 0) pe_int (fun _ _ => rfl)) (pa_cons (pe_ix ix_seq (pv 0) pe_int (fun _ _ => rfl)) (pa_cons (pe_callTy call_list_of (by rfl) m_list (by decide +kernel) (pa_cons (pe_ix ix_seq (pv 0) pe_int (fun _ _ => rfl)) pa_nil)) pa_nil)))) pe_non)))))), (rs_seq (rs_if [true, false] (rt_or (rt_not (rt_b (re_call (ra_cons (re_var 0) (ra_cons (re_int 3) ra_nil))))) (rt_or (rt_not (rt_b (re_call (ra_cons (re_op opd_ix (re_var 0) (re_int 0)) ra_nil)))) (rt_not (rt_test (re_chain opd_b0 opd_b0 (re_int 4) (re_op opd_ix (re_var 0) (re_int 0)) (re_int 16)))))) (rs_ret [false, false] re_non) rs_next) (rs_seq (rs_if [true, false] (rt_or (rt_not (rt_b (re_call (ra_cons (re_op opd_ix (re_var 0) (re_int 1)) ra_nil)))) (rt_or (rt_test (re_op opd_b0 (re_op opd_ix (re_var 0) (re_int 1)) (re_int 1))) (rt_not (rt_b (re_call (ra_cons (re_op opd_ix (re_var 0) (re_int 0)) (ra_cons (re_op opd_ix (re_var 0) (re_int 2)) ra_nil))))))) (rs_ret [false, false] re_non) rs_next) (rs_seq (rs_set 1 [true, false] (re_cb cbd_len (ra_cons (re_op opd_ix (re_var 0) (re_int 2)) ra_nil))) (rs_ret [true, true] (re_if (rt_and (rt_test (re_op opd_b0 (re_var 1) (re_int 0))) (rt_test (re_op opd_eq (re_op opd_i (re_var 1) (re_op opd_ix (re_var 0) (re_int 1))) (re_int 0)))) (re_tup (ra_cons (re_op opd_ix (re_var 0) (re_int 0)) (ra_cons (re_op opd_ix (re_var 0) (re_int 1)) (ra_cons (re_cb cbd_list (ra_cons (re_op opd_ix (re_var 0) (re_int 2)) ra_nil)) ra_nil)))) re_non)))))⟩) (fun _ _ _ _ _ h => h)
/-- mark_by -/
def b_23 : DS := (dRet [true, true] (dCB dSum (dCons (dLc (dRng3 (dCons (dC (.int 0)) (dCons (dVar 0) (dCons (dC (.int 2)) dNil)))) (dgName 1) dYes (dOp (dI CPow fun i j => .int (i * 2 ^ j.toNat)) (dC (.int 1)) (dVar 1)) [1]) dNil)))
def f_23 : DF := fun ds n q => b_23 (endD q) (startD ["width", "place"] ds) n
theorem sc_23 : FnScope ["width", "place"] ["width"] (defScope (top 23)) := ⟨rfl, rfl, rfl, by decide, rfl, by decide +kernel, by decide +kernel⟩
theorem ok_23 {f : Addr} {fd : FuncData} (F : Fun K "mark_by" "mark_by" (top 23) f fd)   (m_range : mg "range" = none) (m_sum : mg "sum" = none) : FnOk P w K mg base CX0 1 f fd ["width"] (spD 1 f_23) :=
  fn_data (k := 0) (fb := b_23) F sc_23 rfl (fun cdv A outer s0 H E hr => ⟨_, (pss_one (ps_ret (pe_callB (cr_sum rfl) (by rfl) m_sum (by decide +kernel) (pa_cons (pe_lc (own := [("place", 1)]) (g := (gName 1)) (tt := tYes) (te := (tOp (rI CPow fun i j => .int (i * 2 ^ j.toNat)) (tC (.int 1)) (tVar 1))) rfl sc_23.nd (pi_range3 (by rfl) m_range (pa_cons pe_int (pa_cons (pv 0) (pa_cons pe_int pa_nil)))) (blkOk_by (own := [("place", 1)]) (N := ["width", "place"]) (sc := defScope (top 23)) (by decide +kernel)) (fun _ _ _ _ _ => (pg_name (i := 1) sc_23.nd rfl (Or.inl rfl))) (fun _ _ _ _ _ => pts_nil) (fun _ _ _ _ _ => (pe_op op_shl pe_int (pv 1)))) pa_nil)))), (rs_ret [true, true] (re_cb cbd_sum (ra_cons (re_lc (vs := [1]) (ri_rng3 (ra_cons (re_int 0) (ra_cons (re_var 0) (ra_cons (re_int 2) ra_nil)))) (rg_name 1 (by decide)) rt_yes (re_op opd_i (re_int 1) (re_var 1))) ra_nil)))⟩) (fun _ _ _ _ _ h => h)
/-- need_image -/
def b_24 : DS := (dSeq (dIfS [true, true, false] (dTest (dNotN (dCall 2 f_19 (dCons (dVar 0) (dCons (dVar 1) dNil))))) dNever dNext) (dSeq (dIfS [false, true, true] (dTest (dOp (dI0 fun i j => .bl (decide (j < i))) (dCB dLen (dCons (dVar 1) dNil)) (dVar 2))) dNever dNext) (dRet [false, true, false] (dCB dList (dCons (dVar 1) dNil)))))
def f_24 : DF := fun ds n q => b_24 (endD q) (startD ["width", "image", "room"] ds) n
theorem sc_24 : FnScope ["width", "image", "room"] ["width", "image", "room"] (defScope (top 24)) := ⟨rfl, rfl, rfl, by decide, rfl, by decide +kernel, by decide +kernel⟩
theorem ok_24 {f : Addr} {fd : FuncData} (F : Fun K "need_image" "need_image" (top 24) f fd) (D_why_not : Df P w K mg base "why_not" 5 ["width", "thing"] (spD 2 f_19))  (m_len : mg "len" = none) (m_list : mg "list" = none) : FnOk P w K mg base CX0 6 f fd ["width", "image", "room"] (spD 3 f_24) :=
  fn_data (k := 5) (fb := b_24) F sc_24 rfl (fun cdv A outer s0 H E hr => ⟨_, (pss_cons (ps_if (pt_cmp (pc_notN (pe_df D_why_not (hr.mono (by decide)) (by rfl) (pa_cons (pv 0) (pa_cons (pv 1) pa_nil)))) rfl) (pss_one ps_never) pss_nil) (pss_cons (ps_if (pt_cmpR op_gt (pe_callB cr_len (by rfl) m_len (by decide +kernel) (pa_cons (pv 1) pa_nil)) (pv 2) (nomark _)) (pss_one ps_never) pss_nil) (pss_one (ps_ret (pe_callTy call_list_of (by rfl) m_list (by decide +kernel) (pa_cons (pv 1) pa_nil)))))), (rs_seq (rs_if [true, true, false] (rt_b (re_notN (re_call (ra_cons (re_var 0) (ra_cons (re_var 1) ra_nil))))) rs_never rs_next) (rs_seq (rs_if [false, true, true] (rt_test (re_op opd_b0 (re_cb cbd_len (ra_cons (re_var 1) ra_nil)) (re_var 2))) rs_never rs_next) (rs_ret [false, true, false] (re_cb cbd_list (ra_cons (re_var 1) ra_nil)))))⟩) (fun _ _ _ _ _ h => h)
/-- kept_ring -/
def b_29 : DS := (dSeq (dIfS [true, false, false, false] (dOr (dNot (dTest (dCall 2 f_5 (dCons (dVar 0) (dCons (dC (.int 2)) dNil))))) (dOr (dNot (dTest (dCall 1 f_2 (dCons (dOp dIx (dVar 0) (dC (.int 0))) dNil)))) (dTest (dOp (dI0 fun i j => .bl (decide (i < j))) (dOp dIx (dVar 0) (dC (.int 0))) (dC (.int 2)))))) (dRet [false, false, false, false] (dC .non)) dNext) (dSeq (dSet 1 [true, false, false, false] (dCall 1 f_21 (dCons (dOp dIx (dVar 0) (dC (.int 1))) dNil))) (dSeq (dIfS [false, true, false, false] (dOr (dTest (dIsN (dVar 1))) (dTest (dOp (dI0 fun i j => .bl (decide (i < j))) (dOp dIx (dVar 1) (dC (.int 1))) (dC (.int 3))))) (dRet [false, false, false, false] (dC .non)) dNext) (dSeq (dPar 2 3 [true, true, false, false] (dCons (dCB dLen (dCons (dOp dIx (dVar 1) (dC (.int 2))) dNil)) (dCons (dOp dTimes (dOp dIx (dVar 0) (dC (.int 0))) (dOp dIx (dVar 1) (dC (.int 1)))) dNil))) (dRet [true, true, true, true] (dIf (dAnd (dTest (dOp (dI0 fun i j => .bl (decide (j ≤ i))) (dVar 2) (dOp dTimes (dC (.int 2)) (dVar 3)))) (dTest (dOp dEq (dOp (dI (fun _ j => 0 < j) fun i j => .int (i % j)) (dVar 2) (dVar 3)) (dC (.int 0))))) (dTup (dCons (dOp dIx (dVar 0) (dC (.int 0))) (dCons (dVar 1) dNil))) (dC .non)))))))
def f_29 : DF := fun ds n q => b_29 (endD q) (startD ["thing", "store", "cells", "many"] ds) n
theorem sc_29 : FnScope ["thing", "store", "cells", "many"] ["thing"] (defScope (top 29)) := ⟨rfl, rfl, rfl, by decide, rfl, by decide +kernel, by decide +kernel⟩
theorem ok_29 {f : Addr} {fd : FuncData} (F : Fun K "kept_ring" "kept_ring" (top 29) f fd) (D_is_row : Df P w K mg base "is_row" 2 ["thing", "many"] (spD 2 f_5)) (D_is_whole : Df P w K mg base "is_whole" 1 ["thing"] (spD 1 f_2)) (D_kept_store : Df P w K mg base "kept_store" 5 ["thing"] (spD 1 f_21))  (m_len : mg "len" = none) : FnOk P w K mg base CX0 6 f fd ["thing"] (spD 1 f_29) :=
  fn_data (k := 5) (fb := b_29) F sc_29 rfl (fun cdv A outer s0 H E hr => ⟨_, (pss_cons (ps_if (PW.pt (pw_or (pt_not (pt_val (pe_df D_is_row (hr.mono (by decide)) (by rfl) (pa_cons (pv 0) (pa_cons pe_int pa_nil))))) (pw_or (pt_not (pt_val (pe_df D_is_whole (hr.mono (by decide)) (by rfl) (pa_cons (pe_ix ix_seq (pv 0) pe_int (fun _ _ => rfl)) pa_nil)))) (pw_or1 (pt_cmpR op_lt (pe_ix ix_seq (pv 0) pe_int (fun _ _ => rfl)) pe_int (nomark _)))))) (pss_one (ps_ret pe_non)) pss_nil) (pss_cons (ps_set (i := 1) sc_29.nd rfl (Or.inl rfl) (pe_df D_kept_store (hr.mono (by decide)) (by rfl) (pa_cons (pe_ix ix_seq (pv 0) pe_int (fun _ _ => rfl)) pa_nil))) (pss_cons (ps_if (PW.pt (pw_or (pt_cmp (pc_isN (pv 1)) rfl) (pw_or1 (pt_cmpR op_lt (pe_ix ix_seq (pv 1) pe_int (fun _ _ => rfl)) pe_int (nomark _))))) (pss_one (ps_ret pe_non)) pss_nil) (pss_cons (ps_par (i := 2) (j := 3) (by rfl) sc_29.nd rfl rfl (by decide) rfl rfl (pa_cons (pe_callB cr_len (by rfl) m_len (by decide +kernel) (pa_cons (pe_ix ix_seq (pv 1) pe_int (fun _ _ => rfl)) pa_nil)) (pa_cons (pe_op op_times (pe_ix ix_seq (pv 0) pe_int (fun _ _ => rfl)) (pe_ix ix_seq (pv 1) pe_int (fun _ _ => rfl))) pa_nil)) (by rfl)) (pss_one (ps_ret (pe_ifExp (PW.pt (pw_and (pt_cmpR op_ge (pv 2) (pe_op op_times pe_int (pv 3)) (nomark _)) (pw_and1 (pt_cmpR (op_eqs hr.units) (pe_op op_mod (pv 2) (pv 3)) pe_int (nomark _))))) (pe_tup (pa_cons (pe_ix ix_seq (pv 0) pe_int (fun _ _ => rfl)) (pa_cons (pv 1) pa_nil))) pe_non))))))), (rs_seq (rs_if [true, false, false, false] (rt_or (rt_not (rt_b (re_call (ra_cons (re_var 0) (ra_cons (re_int 2) ra_nil))))) (rt_or (rt_not (rt_b (re_call (ra_cons (re_op opd_ix (re_var 0) (re_int 0)) ra_nil)))) (rt_test (re_op opd_b0 (re_op opd_ix (re_var 0) (re_int 0)) (re_int 2))))) (rs_ret [false, false, false, false] re_non) rs_next) (rs_seq (rs_set 1 [true, false, false, false] (re_call (ra_cons (re_op opd_ix (re_var 0) (re_int 1)) ra_nil))) (rs_seq (rs_if [false, true, false, false] (rt_or (rt_b (re_isN (re_var 1))) (rt_test (re_op opd_b0 (re_op opd_ix (re_var 1) (re_int 1)) (re_int 3)))) (rs_ret [false, false, false, false] re_non) rs_next) (rs_seq (rs_par 2 3 [true, true, false, false] (ra_cons (re_cb cbd_len (ra_cons (re_op opd_ix (re_var 1) (re_int 2)) ra_nil)) (ra_cons (re_op opd_times (re_op opd_ix (re_var 0) (re_int 0)) (re_op opd_ix (re_var 1) (re_int 1))) ra_nil))) (rs_ret [true, true, true, true] (re_if (rt_and (rt_test (re_op opd_b0 (re_var 2) (re_op opd_times (re_int 2) (re_var 3)))) (rt_test (re_op opd_eq (re_op opd_i (re_var 2) (re_var 3)) (re_int 0)))) (re_tup (ra_cons (re_op opd_ix (re_var 0) (re_int 0)) (ra_cons (re_var 1) ra_nil))) re_non))))))⟩) (fun _ _ _ _ _ h => h)
/-- is_ring -/
def b_30 : DS := (dRet [true] (dNotN (dCall 1 f_29 (dCons (dVar 0) dNil))))
def f_30 : DF := fun ds n q => b_30 (endD q) (startD ["thing"] ds) n
theorem sc_30 : FnScope ["thing"] ["thing"] (defScope (top 30)) := ⟨rfl, rfl, rfl, by decide, rfl, by decide +kernel, by decide +kernel⟩
theorem ok_30 {f : Addr} {fd : FuncData} (F : Fun K "is_ring" "is_ring" (top 30) f fd) (D_kept_ring : Df P w K mg base "kept_ring" 6 ["thing"] (spD 1 f_29))   : FnOk P w K mg base CX0 7 f fd ["thing"] (spD 1 f_30) :=
  fn_data (k := 6) (fb := b_30) F sc_30 rfl (fun cdv A outer s0 H E hr => ⟨_, (pss_one (ps_ret (pe_cmp (pc_notN (pe_df D_kept_ring (hr.mono (by decide)) (by rfl) (pa_cons (pv 0) pa_nil))) rfl))), (rs_ret [true] (re_notN (re_call (ra_cons (re_var 0) ra_nil))))⟩) (fun _ _ _ _ _ h => h)
/-- need_ring -/
def b_31 : DS := (dSeq (dSet 1 [true, false] (dCall 1 f_29 (dCons (dVar 0) dNil))) (dSeq (dIfS [false, true] (dTest (dIsN (dVar 1))) dNever dNext) (dRetV 1)))
def f_31 : DF := fun ds n q => b_31 (endD q) (startD ["ring", "kept"] ds) n
theorem sc_31 : FnScope ["ring", "kept"] ["ring"] (defScope (top 31)) := ⟨rfl, rfl, rfl, by decide, rfl, by decide +kernel, by decide +kernel⟩
theorem ok_31 {f : Addr} {fd : FuncData} (F : Fun K "need_ring" "need_ring" (top 31) f fd) (D_kept_ring : Df P w K mg base "kept_ring" 6 ["thing"] (spD 1 f_29))   : FnOk P w K mg base CX0 7 f fd ["ring"] (spD 1 f_31) :=
  fn_data (k := 6) (fb := b_31) F sc_31 rfl (fun cdv A outer s0 H E hr => ⟨_, (pss_cons (ps_set (i := 1) sc_31.nd rfl (Or.inl rfl) (pe_df D_kept_ring (hr.mono (by decide)) (by rfl) (pa_cons (pv 0) pa_nil))) (pss_cons (ps_if (pt_cmp (pc_isN (pv 1)) rfl) (pss_one ps_never) pss_nil) (pss_one (ps_ret (pv 1))))), (rs_seq (rs_set 1 [true, false] (re_call (ra_cons (re_var 0) ra_nil))) (rs_seq (rs_if [false, true] (rt_b (re_isN (re_var 1))) rs_never rs_next) (rs_retV 1)))⟩) (fun _ _ _ _ _ h => h)
/-- size_of -/
def b_32 : DS := (dRet [true] (dOp (dI CDiv fun i j => .int (i / j)) (dCB dLen (dCons (dOp dIx (dOp dIx (dVar 0) (dC (.int 1))) (dC (.int 2))) dNil)) (dOp dIx (dVar 0) (dC (.int 0)))))
def f_32 : DF := fun ds n q => b_32 (endD q) (startD ["ring"] ds) n
theorem sc_32 : FnScope ["ring"] ["ring"] (defScope (top 32)) := ⟨rfl, rfl, rfl, by decide, rfl, by decide +kernel, by decide +kernel⟩
theorem ok_32 {f : Addr} {fd : FuncData} (F : Fun K "size_of" "size_of" (top 32) f fd)   (m_len : mg "len" = none) : FnOk P w K mg base CX0 1 f fd ["ring"] (spD 1 f_32) :=
  fn_data (k := 0) (fb := b_32) F sc_32 rfl (fun cdv A outer s0 H E hr => ⟨_, (pss_one (ps_ret (pe_op op_fdiv (pe_callB cr_len (by rfl) m_len (by decide +kernel) (pa_cons (pe_ix ix_seq (pe_ix ix_seq (pv 0) pe_int (fun _ _ => rfl)) pe_int (fun _ _ => rfl)) pa_nil)) (pe_ix ix_seq (pv 0) pe_int (fun _ _ => rfl))))), (rs_ret [true] (re_op opd_i (re_cb cbd_len (ra_cons (re_op opd_ix (re_op opd_ix (re_var 0) (re_int 1)) (re_int 2)) ra_nil)) (re_op opd_ix (re_var 0) (re_int 0))))⟩) (fun _ _ _ _ _ h => h)
/-- cells_of -/
def b_33 : DS := (dSeq (dSet 2 [true, false, false] (dCall 1 f_32 (dCons (dVar 0) dNil))) (dRet [true, true, true] (dSl (dOp dIx (dOp dIx (dVar 0) (dC (.int 1))) (dC (.int 2))) (dPart (dOp dTimes (dVar 1) (dVar 2))) (dPart (dOp dPlus (dOp dTimes (dVar 1) (dVar 2)) (dVar 2))))))
def f_33 : DF := fun ds n q => b_33 (endD q) (startD ["ring", "slot", "size"] ds) n
theorem sc_33 : FnScope ["ring", "slot", "size"] ["ring", "slot"] (defScope (top 33)) := ⟨rfl, rfl, rfl, by decide, rfl, by decide +kernel, by decide +kernel⟩
theorem ok_33 {f : Addr} {fd : FuncData} (F : Fun K "cells_of" "cells_of" (top 33) f fd) (D_size_of : Df P w K mg base "size_of" 1 ["ring"] (spD 1 f_32))   : FnOk P w K mg base CX0 2 f fd ["ring", "slot"] (spD 2 f_33) :=
  fn_data (k := 1) (fb := b_33) F sc_33 rfl (fun cdv A outer s0 H E hr => ⟨_, (pss_cons (ps_set (i := 2) sc_33.nd rfl (Or.inl rfl) (pe_df D_size_of (hr.mono (by decide)) (by rfl) (pa_cons (pv 0) pa_nil))) (pss_one (ps_ret (pe_slice sl_all (pe_ix ix_seq (pe_ix ix_seq (pv 0) pe_int (fun _ _ => rfl)) pe_int (fun _ _ => rfl)) (po_some (pe_op op_times (pv 1) (pv 2))) (po_some (pe_op op_plus (pe_op op_times (pv 1) (pv 2)) (pv 2))))))), (rs_seq (rs_set 2 [true, false, false] (re_call (ra_cons (re_var 0) ra_nil))) (rs_ret [true, true, true] (re_sl (re_op opd_ix (re_op opd_ix (re_var 0) (re_int 1)) (re_int 2)) (ro_some (re_op opd_times (re_var 1) (re_var 2))) (ro_some (re_op opd_plus (re_op opd_times (re_var 1) (re_var 2)) (re_var 2))))))⟩) (fun _ _ _ _ _ h => h)
/-- image_in -/
def b_34 : DS := (dSeq (dPar 2 3 [true, true, false, false, false, false] (dCons (dOp dIx (dOp dIx (dVar 0) (dC (.int 1))) (dC (.int 0))) (dCons (dCall 2 f_33 (dCons (dVar 0) (dCons (dVar 1) dNil))) dNil))) (dSeq (dSet 4 [false, false, false, true, false, false] (dSl (dVar 3) (dPart (dC (.int 3))) (dPart (dUn (dU fun i => .int (-i)) (dC (.int 1)))))) (dSeq (dIfS [false, false, false, false, true, false] (dOr (dTest (dOp (dI0 fun i j => .bl (decide (i < j))) (dCB dLen (dCons (dVar 4) dNil)) (dC (.int 5)))) (dTest (dOp (dI0 fun i j => .bl (decide (j < i))) (dOp dIx (dVar 4) (dC (.int 1))) (dOp (dI0 fun i j => .int (i - j)) (dCB dLen (dCons (dVar 4) dNil)) (dC (.int 5)))))) (dRet [false, false, false, false, false, false] (dC .non)) dNext) (dSeq (dSet 5 [false, false, false, false, true, false] (dSl (dVar 4) dNoPart (dPart (dOp dPlus (dOp dIx (dVar 4) (dC (.int 1))) (dC (.int 5)))))) (dRet [false, false, true, false, false, true] (dIf (dTest (dIsN (dCall 2 f_19 (dCons (dVar 2) (dCons (dVar 5) dNil))))) (dVar 5) (dC .non)))))))
def f_34 : DF := fun ds n q => b_34 (endD q) (startD ["ring", "slot", "width", "cells", "room", "words"] ds) n
theorem sc_34 : FnScope ["ring", "slot", "width", "cells", "room", "words"] ["ring", "slot"] (defScope (top 34)) := ⟨rfl, rfl, rfl, by decide, rfl, by decide +kernel, by decide +kernel⟩
theorem ok_34 {f : Addr} {fd : FuncData} (F : Fun K "image_in" "image_in" (top 34) f fd) (D_cells_of : Df P w K mg base "cells_of" 2 ["ring", "slot"] (spD 2 f_33)) (D_why_not : Df P w K mg base "why_not" 5 ["width", "thing"] (spD 2 f_19))  (m_len : mg "len" = none) : FnOk P w K mg base CX0 6 f fd ["ring", "slot"] (spD 2 f_34) :=
  fn_data (k := 5) (fb := b_34) F sc_34 rfl (fun cdv A outer s0 H E hr => ⟨_, (pss_cons (ps_par (i := 2) (j := 3) (by rfl) sc_34.nd rfl rfl (by decide) rfl rfl (pa_cons (pe_ix ix_seq (pe_ix ix_seq (pv 0) pe_int (fun _ _ => rfl)) pe_int (fun _ _ => rfl)) (pa_cons (pe_df D_cells_of (hr.mono (by decide)) (by rfl) (pa_cons (pv 0) (pa_cons (pv 1) pa_nil))) pa_nil)) (by rfl)) (pss_cons (ps_set (i := 4) sc_34.nd rfl (Or.inl rfl) (pe_slice sl_all (pv 3) (po_some pe_int) (po_some (pe_un un_neg pe_int)))) (pss_cons (ps_if (PW.pt (pw_or (pt_cmpR op_lt (pe_callB cr_len (by rfl) m_len (by decide +kernel) (pa_cons (pv 4) pa_nil)) pe_int (nomark _)) (pw_or1 (pt_cmpR op_gt (pe_ix ix_seq (pv 4) pe_int (fun _ _ => rfl)) (pe_op op_sub (pe_callB cr_len (by rfl) m_len (by decide +kernel) (pa_cons (pv 4) pa_nil)) pe_int) (nomark _))))) (pss_one (ps_ret pe_non)) pss_nil) (pss_cons (ps_set (i := 5) sc_34.nd rfl (Or.inl rfl) (pe_slice sl_all (pv 4) po_none (po_some (pe_op op_plus (pe_ix ix_seq (pv 4) pe_int (fun _ _ => rfl)) pe_int)))) (pss_one (ps_ret (pe_ifExp (pt_cmp (pc_isN (pe_df D_why_not (hr.mono (by decide)) (by rfl) (pa_cons (pv 2) (pa_cons (pv 5) pa_nil)))) rfl) (pv 5) pe_non))))))), (rs_seq (rs_par 2 3 [true, true, false, false, false, false] (ra_cons (re_op opd_ix (re_op opd_ix (re_var 0) (re_int 1)) (re_int 0)) (ra_cons (re_call (ra_cons (re_var 0) (ra_cons (re_var 1) ra_nil))) ra_nil))) (rs_seq (rs_set 4 [false, false, false, true, false, false] (re_sl (re_var 3) (ro_some (re_int 3)) (ro_some (re_un und_i (re_int 1))))) (rs_seq (rs_if [false, false, false, false, true, false] (rt_or (rt_test (re_op opd_b0 (re_cb cbd_len (ra_cons (re_var 4) ra_nil)) (re_int 5))) (rt_test (re_op opd_b0 (re_op opd_ix (re_var 4) (re_int 1)) (re_op opd_i0 (re_cb cbd_len (ra_cons (re_var 4) ra_nil)) (re_int 5))))) (rs_ret [false, false, false, false, false, false] re_non) rs_next) (rs_seq (rs_set 5 [false, false, false, false, true, false] (re_sl (re_var 4) ro_none (ro_some (re_op opd_plus (re_op opd_ix (re_var 4) (re_int 1)) (re_int 5))))) (rs_ret [false, false, true, false, false, true] (re_if (rt_b (re_isN (re_call (ra_cons (re_var 2) (ra_cons (re_var 5) ra_nil))))) (re_var 5) re_non))))))⟩) (fun _ _ _ _ _ h => h)
/-- ring_image -/
def b_35 : DS := (dSeq (dSet 2 [true, false, false] (dCall 1 f_31 (dCons (dVar 0) dNil))) (dSeq (dIfS [false, true, true] (dOr (dNot (dTest (dCall 1 f_3 (dCons (dVar 1) dNil)))) (dTest (dOp (dI0 fun i j => .bl (decide (j ≤ i))) (dVar 1) (dOp dIx (dVar 2) (dC (.int 0)))))) dNever dNext) (dRet [false, true, true] (dCall 2 f_34 (dCons (dVar 2) (dCons (dVar 1) dNil))))))
def f_35 : DF := fun ds n q => b_35 (endD q) (startD ["ring", "slot", "kept"] ds) n
theorem sc_35 : FnScope ["ring", "slot", "kept"] ["ring", "slot"] (defScope (top 35)) := ⟨rfl, rfl, rfl, by decide, rfl, by decide +kernel, by decide +kernel⟩
theorem ok_35 {f : Addr} {fd : FuncData} (F : Fun K "ring_image" "ring_image" (top 35) f fd) (D_need_ring : Df P w K mg base "need_ring" 7 ["ring"] (spD 1 f_31)) (D_is_number : Df P w K mg base "is_number" 2 ["thing"] (spD 1 f_3)) (D_image_in : Df P w K mg base "image_in" 6 ["ring", "slot"] (spD 2 f_34))   : FnOk P w K mg base CX0 8 f fd ["ring", "slot"] (spD 2 f_35) :=
  fn_data (k := 7) (fb := b_35) F sc_35 rfl (fun cdv A outer s0 H E hr => ⟨_, (pss_cons (ps_set (i := 2) sc_35.nd rfl (Or.inl rfl) (pe_df D_need_ring (hr.mono (by decide)) (by rfl) (pa_cons (pv 0) pa_nil))) (pss_cons (ps_if (PW.pt (pw_or (pt_not (pt_val (pe_df D_is_number (hr.mono (by decide)) (by rfl) (pa_cons (pv 1) pa_nil)))) (pw_or1 (pt_cmpR op_ge (pv 1) (pe_ix ix_seq (pv 2) pe_int (fun _ _ => rfl)) (nomark _))))) (pss_one ps_never) pss_nil) (pss_one (ps_ret (pe_df D_image_in (hr.mono (by decide)) (by rfl) (pa_cons (pv 2) (pa_cons (pv 1) pa_nil))))))), (rs_seq (rs_set 2 [true, false, false] (re_call (ra_cons (re_var 0) ra_nil))) (rs_seq (rs_if [false, true, true] (rt_or (rt_not (rt_b (re_call (ra_cons (re_var 1) ra_nil)))) (rt_test (re_op opd_b0 (re_var 1) (re_op opd_ix (re_var 2) (re_int 0))))) rs_never rs_next) (rs_ret [false, true, true] (re_call (ra_cons (re_var 2) (ra_cons (re_var 1) ra_nil))))))⟩) (fun _ _ _ _ _ h => h)
/-- fresh_ring -/
def b_36 : DS := (dSeq (dDrop [true, false, false, false, false, false, false, false, false, false] (dCall 1 f_15 (dCons (dVar 0) dNil))) (dSeq (dIfS [false, true, false, false, false, false, false, false, false, false] (dOr (dNot (dTest (dCall 1 f_2 (dCons (dVar 1) dNil)))) (dTest (dOp (dI0 fun i j => .bl (decide (i < j))) (dVar 1) (dC (.int 3))))) dNever dNext) (dSeq (dIfS [false, false, true, false, false, false, false, false, false, false] (dOr (dNot (dTest (dCall 1 f_2 (dCons (dVar 2) dNil)))) (dTest (dOp (dI0 fun i j => .bl (decide (i < j))) (dVar 2) (dC (.int 2))))) dNever dNext) (dSeq (dIfS [false, false, false, true, false, false, false, false, false, false] (dOr (dNot (dTest (dCall 1 f_2 (dCons (dVar 3) dNil)))) (dTest (dOp (dI0 fun i j => .bl (decide (i < j))) (dVar 3) (dC (.int 2))))) dNever dNext) (dSeq (dSet 5 [false, true, true, false, false, false, false, false, false, false] (dOp dTimes (dVar 1) (dVar 2))) (dSeq (dSet 6 [true, false, false, false, true, true, false, false, false, false] (dCall 3 f_24 (dCons (dVar 0) (dCons (dVar 4) (dCons (dOp (dI0 fun i j => .int (i - j)) (dVar 5) (dC (.int 4))) dNil))))) (dSeq (dPar 7 8 [true, false, false, false, false, false, false, false, false, false] (dCons (dCall 1 f_23 (dCons (dVar 0) dNil)) (dCons (dCall 1 f_16 (dCons (dVar 0) dNil)) dNil))) (dSeq (dSet 9 [false, false, false, false, false, true, true, true, true, false] (dLst (dCons (dVar 7) (dCons (dC (.int 0)) (dCons (dC (.int 0)) (dStar (dVar 6) (dStar (dOp dTimes (dLst (dCons (dVar 8) dNil)) (dOp (dI0 fun i j => .int (i - j)) (dOp (dI0 fun i j => .int (i - j)) (dVar 5) (dC (.int 4))) (dCB dLen (dCons (dVar 6) dNil)))) (dCons (dVar 7) dNil)))))))) (dRet [true, true, false, true, false, true, false, false, true, true] (dTup (dCons (dVar 3) (dCons (dTup (dCons (dVar 0) (dCons (dVar 1) (dCons (dLst (dStar (dVar 9) (dStar (dOp dTimes (dLst (dCons (dVar 8) dNil)) (dOp dTimes (dVar 5) (dOp (dI0 fun i j => .int (i - j)) (dVar 3) (dC (.int 1))))) dNil))) dNil)))) dNil))))))))))))
def f_36 : DF := fun ds n q => b_36 (endD q) (startD ["width", "block", "blocks", "count", "image", "size", "words", "mark", "most", "first"] ds) n
theorem sc_36 : FnScope ["width", "block", "blocks", "count", "image", "size", "words", "mark", "most", "first"] ["width", "block", "blocks", "count", "image"] (defScope (top 36)) := ⟨rfl, rfl, rfl, by decide, rfl, by decide +kernel, by decide +kernel⟩
theorem ok_36 {f : Addr} {fd : FuncData} (F : Fun K "fresh_ring" "fresh_ring" (top 36) f fd) (D_need_width : Df P w K mg base "need_width" 2 ["width"] (spD 1 f_15)) (D_is_whole : Df P w K mg base "is_whole" 1 ["thing"] (spD 1 f_2)) (D_need_image : Df P w K mg base "need_image" 6 ["width", "image", "room"] (spD 3 f_24)) (D_ones : Df P w K mg base "ones" 1 ["width"] (spD 1 f_16)) (D_mark_by : Df P w K mg base "mark_by" 1 ["width"] (spD 1 f_23))  (m_len : mg "len" = none) : FnOk P w K mg base CX0 7 f fd ["width", "block", "blocks", "count", "image"] (spD 5 f_36) :=
  fn_data (k := 6) (fb := b_36) F sc_36 rfl (fun cdv A outer s0 H E hr => ⟨_, (pss_cons (ps_expr (pe_df D_need_width (hr.mono (by decide)) (by rfl) (pa_cons (pv 0) pa_nil))) (pss_cons (ps_if (PW.pt (pw_or (pt_not (pt_val (pe_df D_is_whole (hr.mono (by decide)) (by rfl) (pa_cons (pv 1) pa_nil)))) (pw_or1 (pt_cmpR op_lt (pv 1) pe_int (nomark _))))) (pss_one ps_never) pss_nil) (pss_cons (ps_if (PW.pt (pw_or (pt_not (pt_val (pe_df D_is_whole (hr.mono (by decide)) (by rfl) (pa_cons (pv 2) pa_nil)))) (pw_or1 (pt_cmpR op_lt (pv 2) pe_int (nomark _))))) (pss_one ps_never) pss_nil) (pss_cons (ps_if (PW.pt (pw_or (pt_not (pt_val (pe_df D_is_whole (hr.mono (by decide)) (by rfl) (pa_cons (pv 3) pa_nil)))) (pw_or1 (pt_cmpR op_lt (pv 3) pe_int (nomark _))))) (pss_one ps_never) pss_nil) (pss_cons (ps_set (i := 5) sc_36.nd rfl (Or.inl rfl) (pe_op op_times (pv 1) (pv 2))) (pss_cons (ps_set (i := 6) sc_36.nd rfl (Or.inl rfl) (pe_df D_need_image (hr.mono (by decide)) (by rfl) (pa_cons (pv 0) (pa_cons (pv 4) (pa_cons (pe_op op_sub (pv 5) pe_int) pa_nil))))) (pss_cons (ps_par (i := 7) (j := 8) (by rfl) sc_36.nd rfl rfl (by decide) rfl rfl (pa_cons (pe_df D_mark_by (hr.mono (by decide)) (by rfl) (pa_cons (pv 0) pa_nil)) (pa_cons (pe_df D_ones (hr.mono (by decide)) (by rfl) (pa_cons (pv 0) pa_nil)) pa_nil)) (by rfl)) (pss_cons (ps_set (i := 9) sc_36.nd rfl (Or.inl rfl) (pe_lst (pa_cons (pv 7) (pa_cons pe_int (pa_cons pe_int (StX.pa_star (pv 6) (StX.pa_star (pe_op op_times (pe_lst (pa_cons (pv 8) pa_nil)) (pe_op op_sub (pe_op op_sub (pv 5) pe_int) (pe_callB cr_len (by rfl) m_len (by decide +kernel) (pa_cons (pv 6) pa_nil)))) (pa_cons (pv 7) pa_nil)))))))) (pss_one (ps_ret (pe_tup (pa_cons (pv 3) (pa_cons (pe_tup (pa_cons (pv 0) (pa_cons (pv 1) (pa_cons (pe_lst (StX.pa_star (pv 9) (StX.pa_star (pe_op op_times (pe_lst (pa_cons (pv 8) pa_nil)) (pe_op op_times (pv 5) (pe_op op_sub (pv 3) pe_int))) pa_nil))) pa_nil)))) pa_nil))))))))))))), (rs_seq (rs_drop [true, false, false, false, false, false, false, false, false, false] (re_call (ra_cons (re_var 0) ra_nil))) (rs_seq (rs_if [false, true, false, false, false, false, false, false, false, false] (rt_or (rt_not (rt_b (re_call (ra_cons (re_var 1) ra_nil)))) (rt_test (re_op opd_b0 (re_var 1) (re_int 3)))) rs_never rs_next) (rs_seq (rs_if [false, false, true, false, false, false, false, false, false, false] (rt_or (rt_not (rt_b (re_call (ra_cons (re_var 2) ra_nil)))) (rt_test (re_op opd_b0 (re_var 2) (re_int 2)))) rs_never rs_next) (rs_seq (rs_if [false, false, false, true, false, false, false, false, false, false] (rt_or (rt_not (rt_b (re_call (ra_cons (re_var 3) ra_nil)))) (rt_test (re_op opd_b0 (re_var 3) (re_int 2)))) rs_never rs_next) (rs_seq (rs_set 5 [false, true, true, false, false, false, false, false, false, false] (re_op opd_times (re_var 1) (re_var 2))) (rs_seq (rs_set 6 [true, false, false, false, true, true, false, false, false, false] (re_call (ra_cons (re_var 0) (ra_cons (re_var 4) (ra_cons (re_op opd_i0 (re_var 5) (re_int 4)) ra_nil))))) (rs_seq (rs_par 7 8 [true, false, false, false, false, false, false, false, false, false] (ra_cons (re_call (ra_cons (re_var 0) ra_nil)) (ra_cons (re_call (ra_cons (re_var 0) ra_nil)) ra_nil))) (rs_seq (rs_set 9 [false, false, false, false, false, true, true, true, true, false] (re_lst (ra_cons (re_var 7) (ra_cons (re_int 0) (ra_cons (re_int 0) (ra_star (re_var 6) (ra_star (re_op opd_times (re_lst (ra_cons (re_var 8) ra_nil)) (re_op opd_i0 (re_op opd_i0 (re_var 5) (re_int 4)) (re_cb cbd_len (ra_cons (re_var 6) ra_nil)))) (ra_cons (re_var 7) ra_nil)))))))) (rs_ret [true, true, false, true, false, true, false, false, true, true] (re_tup (ra_cons (re_var 3) (ra_cons (re_tup (ra_cons (re_var 0) (ra_cons (re_var 1) (ra_cons (re_lst (ra_star (re_var 9) (ra_star (re_op opd_times (re_lst (ra_cons (re_var 8) ra_nil)) (re_op opd_times (re_var 5) (re_op opd_i0 (re_var 3) (re_int 1)))) ra_nil))) ra_nil)))) ra_nil))))))))))))⟩) (fun _ _ _ _ _ h => h)
/-- is_valid -/
def b_37 : DS := (dSeq (dPar 2 3 [true, true, false, false] (dCons (dCall 2 f_33 (dCons (dVar 0) (dCons (dVar 1) dNil))) (dCons (dCall 1 f_23 (dCons (dOp dIx (dOp dIx (dVar 0) (dC (.int 1))) (dC (.int 0))) dNil)) dNil))) (dRet [true, true, true, true] (dAndV (dOp dEq (dOp dIx (dVar 2) (dC (.int 0))) (dVar 3)) (dAndV (dOp dEq (dOp dIx (dVar 2) (dUn (dU fun i => .int (-i)) (dC (.int 1)))) (dVar 3)) (dNotN (dCall 2 f_34 (dCons (dVar 0) (dCons (dVar 1) dNil))))))))
def f_37 : DF := fun ds n q => b_37 (endD q) (startD ["ring", "slot", "cells", "mark"] ds) n
theorem sc_37 : FnScope ["ring", "slot", "cells", "mark"] ["ring", "slot"] (defScope (top 37)) := ⟨rfl, rfl, rfl, by decide, rfl, by decide +kernel, by decide +kernel⟩
theorem ok_37 {f : Addr} {fd : FuncData} (F : Fun K "is_valid" "is_valid" (top 37) f fd) (D_mark_by : Df P w K mg base "mark_by" 1 ["width"] (spD 1 f_23)) (D_cells_of : Df P w K mg base "cells_of" 2 ["ring", "slot"] (spD 2 f_33)) (D_image_in : Df P w K mg base "image_in" 6 ["ring", "slot"] (spD 2 f_34))   : FnOk P w K mg base CX0 7 f fd ["ring", "slot"] (spD 2 f_37) :=
  fn_data (k := 6) (fb := b_37) F sc_37 rfl (fun cdv A outer s0 H E hr => ⟨_, (pss_cons (ps_par (i := 2) (j := 3) (by rfl) sc_37.nd rfl rfl (by decide) rfl rfl (pa_cons (pe_df D_cells_of (hr.mono (by decide)) (by rfl) (pa_cons (pv 0) (pa_cons (pv 1) pa_nil))) (pa_cons (pe_df D_mark_by (hr.mono (by decide)) (by rfl) (pa_cons (pe_ix ix_seq (pe_ix ix_seq (pv 0) pe_int (fun _ _ => rfl)) pe_int (fun _ _ => rfl)) pa_nil)) pa_nil)) (by rfl)) (pss_one (ps_ret (pe_and (pe_cmpR (op_eqs hr.units) (pe_ix ix_seq (pv 2) pe_int (fun _ _ => rfl)) (pv 3) (nomark _)) (pe_and (pe_cmpR (op_eqs hr.units) (pe_ix ix_seq (pv 2) (pe_un un_neg pe_int) (fun _ _ => rfl)) (pv 3) (nomark _)) (pe_one (pe_cmp (pc_notN (pe_df D_image_in (hr.mono (by decide)) (by rfl) (pa_cons (pv 0) (pa_cons (pv 1) pa_nil)))) rfl))))))), (rs_seq (rs_par 2 3 [true, true, false, false] (ra_cons (re_call (ra_cons (re_var 0) (ra_cons (re_var 1) ra_nil))) (ra_cons (re_call (ra_cons (re_op opd_ix (re_op opd_ix (re_var 0) (re_int 1)) (re_int 0)) ra_nil)) ra_nil))) (rs_ret [true, true, true, true] (re_and (re_op opd_eq (re_op opd_ix (re_var 2) (re_int 0)) (re_var 3)) (re_and (re_op opd_eq (re_op opd_ix (re_var 2) (re_un und_i (re_int 1))) (re_var 3)) (re_notN (re_call (ra_cons (re_var 0) (ra_cons (re_var 1) ra_nil))))))))⟩) (fun _ _ _ _ _ h => h)
/-- is_good -/
def b_38 : DS := (dRet [true, true] (dOp dEq (dOp dIx (dCall 2 f_33 (dCons (dVar 0) (dCons (dVar 1) dNil))) (dC (.int 2))) (dC (.int 0))))
def f_38 : DF := fun ds n q => b_38 (endD q) (startD ["ring", "slot"] ds) n
theorem sc_38 : FnScope ["ring", "slot"] ["ring", "slot"] (defScope (top 38)) := ⟨rfl, rfl, rfl, by decide, rfl, by decide +kernel, by decide +kernel⟩
theorem ok_38 {f : Addr} {fd : FuncData} (F : Fun K "is_good" "is_good" (top 38) f fd) (D_cells_of : Df P w K mg base "cells_of" 2 ["ring", "slot"] (spD 2 f_33))   : FnOk P w K mg base CX0 3 f fd ["ring", "slot"] (spD 2 f_38) :=
  fn_data (k := 2) (fb := b_38) F sc_38 rfl (fun cdv A outer s0 H E hr => ⟨_, (pss_one (ps_ret (pe_cmpR (op_eqs hr.units) (pe_ix ix_seq (pe_df D_cells_of (hr.mono (by decide)) (by rfl) (pa_cons (pv 0) (pa_cons (pv 1) pa_nil))) pe_int (fun _ _ => rfl)) pe_int (nomark _)))), (rs_ret [true, true] (re_op opd_eq (re_op opd_ix (re_call (ra_cons (re_var 0) (ra_cons (re_var 1) ra_nil))) (re_int 2)) (re_int 0)))⟩) (fun _ _ _ _ _ h => h)
/-- can_run -/
def b_39 : DS := (dRet [true, true] (dAndV (dCall 2 f_37 (dCons (dVar 0) (dCons (dVar 1) dNil))) (dOrV (dOp dNe (dOp dIx (dCall 2 f_33 (dCons (dVar 0) (dCons (dVar 1) dNil))) (dC (.int 1))) (dC (.int 0))) (dCall 2 f_38 (dCons (dVar 0) (dCons (dVar 1) dNil))))))
def f_39 : DF := fun ds n q => b_39 (endD q) (startD ["ring", "slot"] ds) n
theorem sc_39 : FnScope ["ring", "slot"] ["ring", "slot"] (defScope (top 39)) := ⟨rfl, rfl, rfl, by decide, rfl, by decide +kernel, by decide +kernel⟩
theorem ok_39 {f : Addr} {fd : FuncData} (F : Fun K "can_run" "can_run" (top 39) f fd) (D_is_valid : Df P w K mg base "is_valid" 7 ["ring", "slot"] (spD 2 f_37)) (D_cells_of : Df P w K mg base "cells_of" 2 ["ring", "slot"] (spD 2 f_33)) (D_is_good : Df P w K mg base "is_good" 3 ["ring", "slot"] (spD 2 f_38))   : FnOk P w K mg base CX0 8 f fd ["ring", "slot"] (spD 2 f_39) :=
  fn_data (k := 7) (fb := b_39) F sc_39 rfl (fun cdv A outer s0 H E hr => ⟨_, (pss_one (ps_ret (pe_and (pe_df D_is_valid (hr.mono (by decide)) (by rfl) (pa_cons (pv 0) (pa_cons (pv 1) pa_nil))) (pe_one (pe_or (pe_cmpR (op_nes hr.units) (pe_ix ix_seq (pe_df D_cells_of (hr.mono (by decide)) (by rfl) (pa_cons (pv 0) (pa_cons (pv 1) pa_nil))) pe_int (fun _ _ => rfl)) pe_int (nomark _)) (pe_one (pe_df D_is_good (hr.mono (by decide)) (by rfl) (pa_cons (pv 0) (pa_cons (pv 1) pa_nil))))))))), (rs_ret [true, true] (re_and (re_call (ra_cons (re_var 0) (ra_cons (re_var 1) ra_nil))) (re_or (re_op opd_ne (re_op opd_ix (re_call (ra_cons (re_var 0) (ra_cons (re_var 1) ra_nil))) (re_int 1)) (re_int 0)) (re_call (ra_cons (re_var 0) (ra_cons (re_var 1) ra_nil))))))⟩) (fun _ _ _ _ _ h => h)
/-- run_by -/
def b_40 : DS := (dSeq (dAsg [false, false, false, false] (dTup (dCons (dC .non) (dCons (dUn (dU fun i => .int (-i)) (dC (.int 1))) dNil))) (dgSeq 2 (dgCons (dgName 1) (dgCons (dgName 2) dgNil)))) (dSeq (dForR [true, false, false, false] (dRng1 (dCons (dOp dIx (dVar 0) (dC (.int 0))) dNil)) (dgName 3) (dIfS [true, false, true, true] (dAnd (dTest (dCall 2 f_39 (dCons (dVar 0) (dCons (dVar 3) dNil)))) (dTest (dOp (dI0 fun i j => .bl (decide (j < i))) (dOp dIx (dCall 2 f_34 (dCons (dVar 0) (dCons (dVar 3) dNil))) (dC (.int 0))) (dVar 2)))) (dPar 1 2 [true, false, false, true] (dCons (dVar 3) (dCons (dOp dIx (dCall 2 f_34 (dCons (dVar 0) (dCons (dVar 3) dNil))) (dC (.int 0))) dNil))) dNext)) (dRetV 1)))
def f_40 : DF := fun ds n q => b_40 (endD q) (startD ["ring", "found", "best", "slot"] ds) n
theorem sc_40 : FnScope ["ring", "found", "best", "slot"] ["ring"] (defScope (top 40)) := ⟨rfl, rfl, rfl, by decide, rfl, by decide +kernel, by decide +kernel⟩
theorem ok_40 {f : Addr} {fd : FuncData} (F : Fun K "run_by" "run_by" (top 40) f fd) (D_can_run : Df P w K mg base "can_run" 8 ["ring", "slot"] (spD 2 f_39)) (D_image_in : Df P w K mg base "image_in" 6 ["ring", "slot"] (spD 2 f_34))  (m_range : mg "range" = none) : FnOk P w K mg base CX0 9 f fd ["ring"] (spD 1 f_40) :=
  fn_data (k := 8) (fb := b_40) F sc_40 rfl (fun cdv A outer s0 H E hr => ⟨_, (pss_cons (ps_asg (pe_tup (pa_cons pe_non (pa_cons (pe_un un_neg pe_int) pa_nil))) (pg_or (pg_tup rfl (pgs_cons (pg_name (i := 1) sc_40.nd rfl (Or.inl rfl)) (pgs_cons (pg_name (i := 2) sc_40.nd rfl (Or.inl rfl)) pgs_nil))) (pg_lst rfl (pgs_cons (pg_name (i := 1) sc_40.nd rfl (Or.inl rfl)) (pgs_cons (pg_name (i := 2) sc_40.nd rfl (Or.inl rfl)) pgs_nil))))) (pss_cons (ps_for PassesOwn.never rfl (pi_range1 (by rfl) m_range (pa_cons (pe_ix ix_seq (pv 0) pe_int (fun _ _ => rfl)) pa_nil)) (pg_name (i := 3) sc_40.nd rfl (Or.inl rfl)) (pss_one (ps_if (PW.pt (pw_and (pt_val (pe_df D_can_run (hr.mono (by decide)) (by rfl) (pa_cons (pv 0) (pa_cons (pv 3) pa_nil)))) (pw_and1 (pt_cmpR op_gt (pe_ix ix_seq (pe_df D_image_in (hr.mono (by decide)) (by rfl) (pa_cons (pv 0) (pa_cons (pv 3) pa_nil))) pe_int (fun _ _ => rfl)) (pv 2) (nomark _))))) (pss_one (ps_par (i := 1) (j := 2) (by rfl) sc_40.nd rfl rfl (by decide) rfl rfl (pa_cons (pv 3) (pa_cons (pe_ix ix_seq (pe_df D_image_in (hr.mono (by decide)) (by rfl) (pa_cons (pv 0) (pa_cons (pv 3) pa_nil))) pe_int (fun _ _ => rfl)) pa_nil)) (by rfl))) pss_nil))) (pss_one (ps_ret (pv 1))))), (rs_seq (rs_asg [false, false, false, false] (re_tup (ra_cons re_non (ra_cons (re_un und_i (re_int 1)) ra_nil))) (rgo_seq (rgos_cons (rgo_name 1) (rgos_cons (rgo_name 2) rgos_nil)))) (rs_seq (rs_forR [true, false, false, false] (ri0_rng1 (ra_cons (re_op opd_ix (re_var 0) (re_int 0)) ra_nil)) (rgo_name 3) (rs_if [true, false, true, true] (rt_and (rt_b (re_call (ra_cons (re_var 0) (ra_cons (re_var 3) ra_nil)))) (rt_test (re_op opd_b0 (re_op opd_ix (re_call (ra_cons (re_var 0) (ra_cons (re_var 3) ra_nil))) (re_int 0)) (re_var 2)))) (rs_par 1 2 [true, false, false, true] (ra_cons (re_var 3) (ra_cons (re_op opd_ix (re_call (ra_cons (re_var 0) (ra_cons (re_var 3) ra_nil))) (re_int 0)) ra_nil))) rs_next)) (rs_retV 1)))⟩) (fun _ _ _ _ _ h => h)
/-- ring_run -/
def b_41 : DS := (dSeq (dSet 1 [true, false, false] (dCall 1 f_31 (dCons (dVar 0) dNil))) (dSeq (dSet 2 [false, true, false] (dCall 1 f_40 (dCons (dVar 1) dNil))) (dRet [false, true, true] (dIf (dTest (dIsN (dVar 2))) (dTup (dCons (dC (.str "none")) dNil)) (dTup (dCons (dC (.str "run")) (dCons (dVar 2) (dCons (dOp dIx (dCall 2 f_34 (dCons (dVar 1) (dCons (dVar 2) dNil))) (dC (.int 0))) dNil))))))))
def f_41 : DF := fun ds n q => b_41 (endD q) (startD ["ring", "kept", "slot"] ds) n
theorem sc_41 : FnScope ["ring", "kept", "slot"] ["ring"] (defScope (top 41)) := ⟨rfl, rfl, rfl, by decide, rfl, by decide +kernel, by decide +kernel⟩
theorem ok_41 {f : Addr} {fd : FuncData} (F : Fun K "ring_run" "ring_run" (top 41) f fd) (D_need_ring : Df P w K mg base "need_ring" 7 ["ring"] (spD 1 f_31)) (D_run_by : Df P w K mg base "run_by" 9 ["ring"] (spD 1 f_40)) (D_image_in : Df P w K mg base "image_in" 6 ["ring", "slot"] (spD 2 f_34))   : FnOk P w K mg base CX0 10 f fd ["ring"] (spD 1 f_41) :=
  fn_data (k := 9) (fb := b_41) F sc_41 rfl (fun cdv A outer s0 H E hr => ⟨_, (pss_cons (ps_set (i := 1) sc_41.nd rfl (Or.inl rfl) (pe_df D_need_ring (hr.mono (by decide)) (by rfl) (pa_cons (pv 0) pa_nil))) (pss_cons (ps_set (i := 2) sc_41.nd rfl (Or.inl rfl) (pe_df D_run_by (hr.mono (by decide)) (by rfl) (pa_cons (pv 1) pa_nil))) (pss_one (ps_ret (pe_ifExp (pt_cmp (pc_isN (pv 2)) rfl) (pe_tup (pa_cons pe_str pa_nil)) (pe_tup (pa_cons pe_str (pa_cons (pv 2) (pa_cons (pe_ix ix_seq (pe_df D_image_in (hr.mono (by decide)) (by rfl) (pa_cons (pv 1) (pa_cons (pv 2) pa_nil))) pe_int (fun _ _ => rfl)) pa_nil))))))))), (rs_seq (rs_set 1 [true, false, false] (re_call (ra_cons (re_var 0) ra_nil))) (rs_seq (rs_set 2 [false, true, false] (re_call (ra_cons (re_var 1) ra_nil))) (rs_ret [false, true, true] (re_if (rt_b (re_isN (re_var 2))) (re_tup (ra_cons (re_str "none") ra_nil)) (re_tup (ra_cons (re_str "run") (ra_cons (re_var 2) (ra_cons (re_op opd_ix (re_call (ra_cons (re_var 1) (ra_cons (re_var 2) ra_nil))) (re_int 0)) ra_nil))))))))⟩) (fun _ _ _ _ _ h => h)
/-- why_of -/
def b_42 : DS := (dSeq (dPar 3 4 [true, true, false, false, false] (dCons (dCall 2 f_33 (dCons (dVar 0) (dCons (dVar 1) dNil))) (dCons (dCall 1 f_23 (dCons (dOp dIx (dOp dIx (dVar 0) (dC (.int 1))) (dC (.int 0))) dNil)) dNil))) (dSeq (dIfS [false, true, true, false, false] (dTest (dOp dEq (dVar 1) (dVar 2))) (dRet [false, false, false, false, false] (dC (.str "run"))) dNext) (dSeq (dIfS [false, false, false, true, true] (dOr (dTest (dOp dNe (dOp dIx (dVar 3) (dC (.int 0))) (dVar 4))) (dTest (dOp dNe (dOp dIx (dVar 3) (dUn (dU fun i => .int (-i)) (dC (.int 1)))) (dVar 4)))) (dRet [false, false, false, false, false] (dC (.str "marks"))) dNext) (dSeq (dIfS [true, true, false, false, false] (dTest (dIsN (dCall 2 f_34 (dCons (dVar 0) (dCons (dVar 1) dNil))))) (dRet [false, false, false, false, false] (dC (.str "image"))) dNext) (dRet [true, true, false, false, false] (dIf (dTest (dCall 2 f_39 (dCons (dVar 0) (dCons (dVar 1) dNil)))) (dC (.str "older")) (dC (.str "failed"))))))))
def f_42 : DF := fun ds n q => b_42 (endD q) (startD ["ring", "slot", "run", "cells", "mark"] ds) n
theorem sc_42 : FnScope ["ring", "slot", "run", "cells", "mark"] ["ring", "slot", "run"] (defScope (top 42)) := ⟨rfl, rfl, rfl, by decide, rfl, by decide +kernel, by decide +kernel⟩
theorem ok_42 {f : Addr} {fd : FuncData} (F : Fun K "why_of" "why_of" (top 42) f fd) (D_mark_by : Df P w K mg base "mark_by" 1 ["width"] (spD 1 f_23)) (D_cells_of : Df P w K mg base "cells_of" 2 ["ring", "slot"] (spD 2 f_33)) (D_image_in : Df P w K mg base "image_in" 6 ["ring", "slot"] (spD 2 f_34)) (D_can_run : Df P w K mg base "can_run" 8 ["ring", "slot"] (spD 2 f_39))   : FnOk P w K mg base CX0 9 f fd ["ring", "slot", "run"] (spD 3 f_42) :=
  fn_data (k := 8) (fb := b_42) F sc_42 rfl (fun cdv A outer s0 H E hr => ⟨_, (pss_cons (ps_par (i := 3) (j := 4) (by rfl) sc_42.nd rfl rfl (by decide) rfl rfl (pa_cons (pe_df D_cells_of (hr.mono (by decide)) (by rfl) (pa_cons (pv 0) (pa_cons (pv 1) pa_nil))) (pa_cons (pe_df D_mark_by (hr.mono (by decide)) (by rfl) (pa_cons (pe_ix ix_seq (pe_ix ix_seq (pv 0) pe_int (fun _ _ => rfl)) pe_int (fun _ _ => rfl)) pa_nil)) pa_nil)) (by rfl)) (pss_cons (ps_if (pt_cmpR (op_eqs hr.units) (pv 1) (pv 2) (nomark _)) (pss_one (ps_ret pe_str)) pss_nil) (pss_cons (ps_if (PW.pt (pw_or (pt_cmpR (op_nes hr.units) (pe_ix ix_seq (pv 3) pe_int (fun _ _ => rfl)) (pv 4) (nomark _)) (pw_or1 (pt_cmpR (op_nes hr.units) (pe_ix ix_seq (pv 3) (pe_un un_neg pe_int) (fun _ _ => rfl)) (pv 4) (nomark _))))) (pss_one (ps_ret pe_str)) pss_nil) (pss_cons (ps_if (pt_cmp (pc_isN (pe_df D_image_in (hr.mono (by decide)) (by rfl) (pa_cons (pv 0) (pa_cons (pv 1) pa_nil)))) rfl) (pss_one (ps_ret pe_str)) pss_nil) (pss_one (ps_ret (pe_ifExp (pt_val (pe_df D_can_run (hr.mono (by decide)) (by rfl) (pa_cons (pv 0) (pa_cons (pv 1) pa_nil)))) pe_str pe_str))))))), (rs_seq (rs_par 3 4 [true, true, false, false, false] (ra_cons (re_call (ra_cons (re_var 0) (ra_cons (re_var 1) ra_nil))) (ra_cons (re_call (ra_cons (re_op opd_ix (re_op opd_ix (re_var 0) (re_int 1)) (re_int 0)) ra_nil)) ra_nil))) (rs_seq (rs_if [false, true, true, false, false] (rt_test (re_op opd_eq (re_var 1) (re_var 2))) (rs_ret [false, false, false, false, false] (re_str "run")) rs_next) (rs_seq (rs_if [false, false, false, true, true] (rt_or (rt_test (re_op opd_ne (re_op opd_ix (re_var 3) (re_int 0)) (re_var 4))) (rt_test (re_op opd_ne (re_op opd_ix (re_var 3) (re_un und_i (re_int 1))) (re_var 4)))) (rs_ret [false, false, false, false, false] (re_str "marks")) rs_next) (rs_seq (rs_if [true, true, false, false, false] (rt_b (re_isN (re_call (ra_cons (re_var 0) (ra_cons (re_var 1) ra_nil))))) (rs_ret [false, false, false, false, false] (re_str "image")) rs_next) (rs_ret [true, true, false, false, false] (re_if (rt_b (re_call (ra_cons (re_var 0) (ra_cons (re_var 1) ra_nil)))) (re_str "older") (re_str "failed")))))))⟩) (fun _ _ _ _ _ h => h)
/-- ring_why -/
def b_43 : DS := (dSeq (dSet 1 [true, false, false, false] (dCall 1 f_31 (dCons (dVar 0) dNil))) (dSeq (dSet 2 [false, true, false, false] (dCall 1 f_40 (dCons (dVar 1) dNil))) (dRet [false, true, true, true] (dLc (dRng1 (dCons (dOp dIx (dVar 1) (dC (.int 0))) dNil)) (dgName 3) dYes (dCall 3 f_42 (dCons (dVar 1) (dCons (dVar 3) (dCons (dVar 2) dNil)))) [3]))))
def f_43 : DF := fun ds n q => b_43 (endD q) (startD ["ring", "kept", "run", "slot"] ds) n
theorem sc_43 : FnScope ["ring", "kept", "run", "slot"] ["ring"] (defScope (top 43)) := ⟨rfl, rfl, rfl, by decide, rfl, by decide +kernel, by decide +kernel⟩
theorem ok_43 {f : Addr} {fd : FuncData} (F : Fun K "ring_why" "ring_why" (top 43) f fd) (D_need_ring : Df P w K mg base "need_ring" 7 ["ring"] (spD 1 f_31)) (D_run_by : Df P w K mg base "run_by" 9 ["ring"] (spD 1 f_40)) (D_why_of : Df P w K mg base "why_of" 9 ["ring", "slot", "run"] (spD 3 f_42))  (m_range : mg "range" = none) : FnOk P w K mg base CX0 10 f fd ["ring"] (spD 1 f_43) :=
  fn_data (k := 9) (fb := b_43) F sc_43 rfl (fun cdv A outer s0 H E hr => ⟨_, (pss_cons (ps_set (i := 1) sc_43.nd rfl (Or.inr rfl) (pe_df D_need_ring (hr.mono (by decide)) (by rfl) (pa_cons (pv 0) pa_nil))) (pss_cons (ps_set (i := 2) sc_43.nd rfl (Or.inr rfl) (pe_df D_run_by (hr.mono (by decide)) (by rfl) (pa_cons (pv 1) pa_nil))) (pss_one (ps_ret (pe_lc (own := [("slot", 3)]) (g := (gName 3)) (tt := tYes) (te := (tCall (spD 3 f_42) [] E0 (tCons (tVar 1) (tCons (tVar 3) (tCons (tVar 2) tNil))))) rfl sc_43.nd (pi_range1 (by rfl) m_range (pa_cons (pe_ix ix_seq (pv 1) pe_int (fun _ _ => rfl)) pa_nil)) (blkOk_by (own := [("slot", 3)]) (N := ["ring", "kept", "run", "slot"]) (sc := defScope (top 43)) (by decide +kernel)) (fun _ _ _ _ _ => (pg_name (i := 3) sc_43.nd rfl (Or.inl rfl))) (fun _ _ _ _ _ => pts_nil) (fun _ _ _ _ _ => (pe_df D_why_of (hr.mono (by decide)) (by rfl) (pa_cons (pv 1) (pa_cons (pv 3) (pa_cons (pv 2) pa_nil)))))))))), (rs_seq (rs_set 1 [true, false, false, false] (re_call (ra_cons (re_var 0) ra_nil))) (rs_seq (rs_set 2 [false, true, false, false] (re_call (ra_cons (re_var 1) ra_nil))) (rs_ret [false, true, true, true] (re_lc (vs := [3]) (ri_rng1 (ra_cons (re_op opd_ix (re_var 1) (re_int 0)) ra_nil)) (rg_name 3 (by decide)) rt_yes (re_call (ra_cons (re_var 1) (ra_cons (re_var 3) (ra_cons (re_var 2) ra_nil))))))))⟩) (fun _ _ _ _ _ h => h)
end
end M4
set_option Elab.async false
set_option linter.all false
set_option maxRecDepth 100000
set_option maxHeartbeats 4000000
namespace M4
open PySem PySem.Spec PySem.W PyProof.Rows L2 LiI RZ DL
open N4 (top fDraw fMixed fSame)
section
variable [TabsOf] {P : Program} {w : World} {K : PySem.W.Frag} {mg : Str → Option Value} {base : Heap}
/-- _law_pick -/
def b_47 : DS := (dRet [true, true] (dOp dIx (dVar 1) (dCall 2 fDraw (dCons (dVar 0) (dCons (dCB dLen (dCons (dVar 1) dNil)) dNil)))))
def f_47 : DF := fun ds n q => b_47 (endD q) (startD ["stream", "things"] ds) n
theorem sc_47 : FnScope ["stream", "things"] ["stream", "things"] (defScope (top 47)) := ⟨rfl, rfl, rfl, by decide, rfl, by decide +kernel, by decide +kernel⟩
theorem ok_47 {f : Addr} {fd : FuncData} (F : Fun K "_law_pick" "_law_pick" (top 47) f fd) (D__law_draw : Df P w K mg base "_law_draw" 1 ["stream", "many"] (spD 2 fDraw))  (m_len : mg "len" = none) : FnOk P w K mg base CX0 2 f fd ["stream", "things"] (spD 2 f_47) :=
  fn_data (k := 1) (fb := b_47) F sc_47 rfl (fun cdv A outer s0 H E hr => ⟨_, (pss_one (ps_ret (pe_ix ix_seq (pv 1) (pe_df D__law_draw (hr.mono (by decide)) (by rfl) (pa_cons (pv 0) (pa_cons (pe_callB cr_len (by rfl) m_len (by decide +kernel) (pa_cons (pv 1) pa_nil)) pa_nil))) (fun _ _ => rfl)))), (rs_ret [true, true] (re_op opd_ix (re_var 1) (re_call (ra_cons (re_var 0) (ra_cons (re_cb cbd_len (ra_cons (re_var 1) ra_nil)) ra_nil)))))⟩) (fun _ _ _ _ _ h => h)
/-- _law_is_number -/
def b_54 : DS := (dRet [true, true] (dAndV (dIsi "int" (dVar 0)) (dAndV (dNotV (dIsi "bool" (dVar 0))) (dAndV (dOp (dI0 fun i j => .bl (decide (j ≤ i))) (dVar 0) (dC (.int 0))) (dOrV (dIsN (dVar 1)) (dOp (dI0 fun i j => .bl (decide (i < j))) (dVar 0) (dVar 1)))))))
def f_54 : DF := fun ds n q => b_54 (endD q) (startD ["thing", "most"] ds) n
theorem sc_54 : FnScope ["thing", "most"] ["thing", "most"] (defScope (top 54)) := ⟨rfl, rfl, rfl, by decide, rfl, by decide +kernel, by decide +kernel⟩
theorem ok_54 {f : Addr} {fd : FuncData} (F : Fun K "_law_is_number" "_law_is_number" (top 54) f fd)   (m_bool : mg "bool" = none) (m_int : mg "int" = none) (m_isinstance : mg "isinstance" = none) : FnOk P w K mg base CX0 1 f fd ["thing", "most"] (spD 2 f_54) :=
  fn_data (k := 0) (fb := b_54) F sc_54 rfl (fun cdv A outer s0 H E hr => ⟨_, (pss_one (ps_ret (pe_and (pe_callB call_isi (by rfl) m_isinstance (by decide +kernel) (pa_cons (pv 0) (pa_cons (pe_bltn (v := .ty "int") (by rfl) m_int (by decide +kernel) rfl) pa_nil))) (pe_and (pe_not (pe_callB call_isi (by rfl) m_isinstance (by decide +kernel) (pa_cons (pv 0) (pa_cons (pe_bltn (v := .ty "bool") (by rfl) m_bool (by decide +kernel) rfl) pa_nil)))) (pe_and (pe_cmpR op_ge (pv 0) pe_int (nomark _)) (pe_one (pe_or (pe_cmp (pc_isN (pv 1)) rfl) (pe_one (pe_cmpR op_lt (pv 0) (pv 1) (nomark _)))))))))), (rs_ret [true, true] (re_and (re_isi (T := "int") (by decide) (re_var 0)) (re_and (re_not (re_isi (T := "bool") (by decide) (re_var 0))) (re_and (re_op opd_b0 (re_var 0) (re_int 0)) (re_or (re_isN (re_var 1)) (re_op opd_b0 (re_var 0) (re_var 1)))))))⟩) (fun _ _ _ _ _ h => h)
/-- _law_f_sums -/
def b_55 : DS := (dSeq (dAsg [false, false, false, false, false, false, false] (dTup (dCons (dC (.int 1)) (dCons (dC (.int 0)) (dCons (dC (.int 0)) dNil)))) (dgSeq 3 (dgCons (dgName 2) (dgCons (dgName 3) (dgCons (dgName 4) dgNil))))) (dSeq (dForR [true, false, false, false, false, false, false] (dRng1 (dCons (dVar 0) dNil)) (dgName 5) (dSet 2 [false, false, true, false, false, false, false] (dOp dTimes (dC (.int 2)) (dVar 2)))) (dSeq (dFor [false, true, false, false, false, false, false] (dItems (dVar 1)) (dgName 6) (dSeq (dSet 3 [false, false, true, true, false, false, true] (dOp (dI (fun _ j => 0 < j) fun i j => .int (i % j)) (dCB dInt (dCons (dOp dPlus (dVar 3) (dVar 6)) dNil)) (dOp (dI0 fun i j => .int (i - j)) (dVar 2) (dC (.int 1))))) (dSet 4 [false, false, true, true, true, false, false] (dOp (dI (fun _ j => 0 < j) fun i j => .int (i % j)) (dCB dInt (dCons (dOp dPlus (dVar 4) (dVar 3)) dNil)) (dOp (dI0 fun i j => .int (i - j)) (dVar 2) (dC (.int 1))))))) (dRet [false, false, false, true, true, false, false] (dLst (dCons (dVar 3) (dCons (dVar 4) dNil)))))))
def f_55 : DF := fun ds n q => b_55 (endD q) (startD ["width", "words", "most", "one", "two", "k", "word"] ds) n
theorem sc_55 : FnScope ["width", "words", "most", "one", "two", "k", "word"] ["width", "words"] (defScope (top 55)) := ⟨rfl, rfl, rfl, by decide, rfl, by decide +kernel, by decide +kernel⟩
theorem ok_55 {f : Addr} {fd : FuncData} (F : Fun K "_law_f_sums" "_law_f_sums" (top 55) f fd)   (m_int : mg "int" = none) (m_range : mg "range" = none) : FnOk P w K mg base CX0 1 f fd ["width", "words"] (spD 2 f_55) :=
  fn_data (k := 0) (fb := b_55) F sc_55 rfl (fun cdv A outer s0 H E hr => ⟨_, (pss_cons (ps_asg (pe_tup (pa_cons pe_int (pa_cons pe_int (pa_cons pe_int pa_nil)))) (pg_or (pg_tup rfl (pgs_cons (pg_name (i := 2) sc_55.nd rfl (Or.inl rfl)) (pgs_cons (pg_name (i := 3) sc_55.nd rfl (Or.inl rfl)) (pgs_cons (pg_name (i := 4) sc_55.nd rfl (Or.inl rfl)) pgs_nil)))) (pg_lst rfl (pgs_cons (pg_name (i := 2) sc_55.nd rfl (Or.inl rfl)) (pgs_cons (pg_name (i := 3) sc_55.nd rfl (Or.inl rfl)) (pgs_cons (pg_name (i := 4) sc_55.nd rfl (Or.inl rfl)) pgs_nil)))))) (pss_cons (ps_for PassesOwn.never rfl (pi_range1 (by rfl) m_range (pa_cons (pv 0) pa_nil)) (pg_name (i := 5) sc_55.nd rfl (Or.inl rfl)) (pss_one (ps_set (i := 2) sc_55.nd rfl (Or.inl rfl) (pe_op op_times pe_int (pv 2))))) (pss_cons (ps_for PassesOwn.never rfl (pi_lt (pv 1)) (pg_name (i := 6) sc_55.nd rfl (Or.inl rfl)) (pss_cons (ps_set (i := 3) sc_55.nd rfl (Or.inl rfl) (pe_op op_mod (pe_callTy call_int1 (by rfl) m_int (by decide +kernel) (pa_cons (pe_op op_plus (pv 3) (pv 6)) pa_nil)) (pe_op op_sub (pv 2) pe_int))) (pss_one (ps_set (i := 4) sc_55.nd rfl (Or.inl rfl) (pe_op op_mod (pe_callTy call_int1 (by rfl) m_int (by decide +kernel) (pa_cons (pe_op op_plus (pv 4) (pv 3)) pa_nil)) (pe_op op_sub (pv 2) pe_int)))))) (pss_one (ps_ret (pe_lst (pa_cons (pv 3) (pa_cons (pv 4) pa_nil)))))))), (rs_seq (rs_asg [false, false, false, false, false, false, false] (re_tup (ra_cons (re_int 1) (ra_cons (re_int 0) (ra_cons (re_int 0) ra_nil)))) (rgo_seq (rgos_cons (rgo_name 2) (rgos_cons (rgo_name 3) (rgos_cons (rgo_name 4) rgos_nil))))) (rs_seq (rs_forR [true, false, false, false, false, false, false] (ri0_rng1 (ra_cons (re_var 0) ra_nil)) (rgo_name 5) (rs_set 2 [false, false, true, false, false, false, false] (re_op opd_times (re_int 2) (re_var 2)))) (rs_seq (rs_for [false, true, false, false, false, false, false] (ri_lt (re_var 1)) (rgo_name 6) (rs_seq (rs_set 3 [false, false, true, true, false, false, true] (re_op opd_i (re_cb cbd_int (ra_cons (re_op opd_plus (re_var 3) (re_var 6)) ra_nil)) (re_op opd_i0 (re_var 2) (re_int 1)))) (rs_set 4 [false, false, true, true, true, false, false] (re_op opd_i (re_cb cbd_int (ra_cons (re_op opd_plus (re_var 4) (re_var 3)) ra_nil)) (re_op opd_i0 (re_var 2) (re_int 1)))))) (rs_ret [false, false, false, true, true, false, false] (re_lst (ra_cons (re_var 3) (ra_cons (re_var 4) ra_nil)))))))⟩) (fun _ _ _ _ _ h => h)
/-- _law_f_mark -/
def b_56 : DS := (dSeq (dAsg [false, false, false, false] (dTup (dCons (dC (.int 0)) (dCons (dC (.int 1)) dNil))) (dgSeq 2 (dgCons (dgName 1) (dgCons (dgName 2) dgNil)))) (dSeq (dForR [true, false, false, false] (dRng1 (dCons (dVar 0) dNil)) (dgName 3) (dSeq (dSet 1 [false, true, true, true] (dOp dPlus (dVar 1) (dIf (dTest (dOp dEq (dOp (dI (fun _ j => 0 < j) fun i j => .int (i % j)) (dCB dInt (dCons (dVar 3) dNil)) (dC (.int 2))) (dC (.int 0)))) (dVar 2) (dC (.int 0))))) (dSet 2 [false, false, true, false] (dOp dTimes (dC (.int 2)) (dVar 2))))) (dRetV 1)))
def f_56 : DF := fun ds n q => b_56 (endD q) (startD ["width", "found", "bit", "k"] ds) n
theorem sc_56 : FnScope ["width", "found", "bit", "k"] ["width"] (defScope (top 56)) := ⟨rfl, rfl, rfl, by decide, rfl, by decide +kernel, by decide +kernel⟩
theorem ok_56 {f : Addr} {fd : FuncData} (F : Fun K "_law_f_mark" "_law_f_mark" (top 56) f fd)   (m_int : mg "int" = none) (m_range : mg "range" = none) : FnOk P w K mg base CX0 1 f fd ["width"] (spD 1 f_56) :=
  fn_data (k := 0) (fb := b_56) F sc_56 rfl (fun cdv A outer s0 H E hr => ⟨_, (pss_cons (ps_asg (pe_tup (pa_cons pe_int (pa_cons pe_int pa_nil))) (pg_or (pg_tup rfl (pgs_cons (pg_name (i := 1) sc_56.nd rfl (Or.inl rfl)) (pgs_cons (pg_name (i := 2) sc_56.nd rfl (Or.inl rfl)) pgs_nil))) (pg_lst rfl (pgs_cons (pg_name (i := 1) sc_56.nd rfl (Or.inl rfl)) (pgs_cons (pg_name (i := 2) sc_56.nd rfl (Or.inl rfl)) pgs_nil))))) (pss_cons (ps_for PassesOwn.never rfl (pi_range1 (by rfl) m_range (pa_cons (pv 0) pa_nil)) (pg_name (i := 3) sc_56.nd rfl (Or.inl rfl)) (pss_cons (ps_set (i := 1) sc_56.nd rfl (Or.inl rfl) (pe_op op_plus (pv 1) (pe_ifExp (pt_cmpR (op_eqs hr.units) (pe_op op_mod (pe_callTy call_int1 (by rfl) m_int (by decide +kernel) (pa_cons (pv 3) pa_nil)) pe_int) pe_int (nomark _)) (pv 2) pe_int))) (pss_one (ps_set (i := 2) sc_56.nd rfl (Or.inl rfl) (pe_op op_times pe_int (pv 2)))))) (pss_one (ps_ret (pv 1))))), (rs_seq (rs_asg [false, false, false, false] (re_tup (ra_cons (re_int 0) (ra_cons (re_int 1) ra_nil))) (rgo_seq (rgos_cons (rgo_name 1) (rgos_cons (rgo_name 2) rgos_nil)))) (rs_seq (rs_forR [true, false, false, false] (ri0_rng1 (ra_cons (re_var 0) ra_nil)) (rgo_name 3) (rs_seq (rs_set 1 [false, true, true, true] (re_op opd_plus (re_var 1) (re_if (rt_test (re_op opd_eq (re_op opd_i (re_cb cbd_int (ra_cons (re_var 3) ra_nil)) (re_int 2)) (re_int 0))) (re_var 2) (re_int 0)))) (rs_set 2 [false, false, true, false] (re_op opd_times (re_int 2) (re_var 2))))) (rs_retV 1)))⟩) (fun _ _ _ _ _ h => h)
/-- _law_f_ones -/
def b_58 : DS := (dSeq (dSet 1 [false, false, false] (dC (.int 0))) (dSeq (dForR [true, false, false] (dRng1 (dCons (dVar 0) dNil)) (dgName 2) (dSet 1 [false, true, false] (dOp dPlus (dOp dTimes (dC (.int 2)) (dVar 1)) (dC (.int 1))))) (dRetV 1)))
def f_58 : DF := fun ds n q => b_58 (endD q) (startD ["width", "found", "k"] ds) n
theorem sc_58 : FnScope ["width", "found", "k"] ["width"] (defScope (top 58)) := ⟨rfl, rfl, rfl, by decide, rfl, by decide +kernel, by decide +kernel⟩
theorem ok_58 {f : Addr} {fd : FuncData} (F : Fun K "_law_f_ones" "_law_f_ones" (top 58) f fd)   (m_range : mg "range" = none) : FnOk P w K mg base CX0 1 f fd ["width"] (spD 1 f_58) :=
  fn_data (k := 0) (fb := b_58) F sc_58 rfl (fun cdv A outer s0 H E hr => ⟨_, (pss_cons (ps_set (i := 1) sc_58.nd rfl (Or.inl rfl) pe_int) (pss_cons (ps_for PassesOwn.never rfl (pi_range1 (by rfl) m_range (pa_cons (pv 0) pa_nil)) (pg_name (i := 2) sc_58.nd rfl (Or.inl rfl)) (pss_one (ps_set (i := 1) sc_58.nd rfl (Or.inl rfl) (pe_op op_plus (pe_op op_times pe_int (pv 1)) pe_int)))) (pss_one (ps_ret (pv 1))))), (rs_seq (rs_set 1 [false, false, false] (re_int 0)) (rs_seq (rs_forR [true, false, false] (ri0_rng1 (ra_cons (re_var 0) ra_nil)) (rgo_name 2) (rs_set 1 [false, true, false] (re_op opd_plus (re_op opd_times (re_int 2) (re_var 1)) (re_int 1)))) (rs_retV 1)))⟩) (fun _ _ _ _ _ h => h)
/-- _law_f_image -/
def b_57 : DS := (dSeq (dAsg [true, false, false, false, false, false, false, false, false, false, false, false, false, false, false] (dVar 0) (dgSeq 3 (dgCons (dgName 2) (dgCons (dgName 3) (dgCons (dgName 4) dgNil))))) (dSeq (dPar 5 6 [false, false, true, false, true, false, false, false, false, false, false, false, false, false, false] (dCons (dOp (dI CDiv fun i j => .int (i / j)) (dCB dLen (dCons (dVar 4) dNil)) (dC (.int 2))) (dCons (dCall 1 f_58 (dCons (dVar 2) dNil)) dNil))) (dSeq (dSet 7 [false, true, false, false, true, true, false, false, false, false, false, false, false, false, false] (dSl (dVar 4) (dPart (dOp dPlus (dOp dTimes (dVar 1) (dVar 5)) (dC (.int 3)))) (dPart (dOp (dI0 fun i j => .int (i - j)) (dOp dPlus (dOp dTimes (dVar 1) (dVar 5)) (dVar 5)) (dC (.int 1)))))) (dSeq (dIfS [false, false, false, false, false, false, true, true, false, false, false, false, false, false, false] (dOr (dTest (dOp (dI0 fun i j => .bl (decide (i < j))) (dCB dLen (dCons (dVar 7) dNil)) (dC (.int 5)))) (dOr (dTest (dOp dEq (dOp dIx (dVar 7) (dC (.int 1))) (dVar 6))) (dTest (dOp (dI0 fun i j => .bl (decide (j < i))) (dOp dPlus (dOp dIx (dVar 7) (dC (.int 1))) (dC (.int 5))) (dCB dLen (dCons (dVar 7) dNil)))))) (dRet [false, false, false, false, false, false, false, false, false, false, false, false, false, false, false] (dC .non)) dNext) (dSeq (dSet 8 [false, false, false, false, false, false, false, true, false, false, false, false, false, false, false] (dSl (dVar 7) dNoPart (dPart (dOp dPlus (dOp dIx (dVar 7) (dC (.int 1))) (dC (.int 5)))))) (dSeq (dAsg [false, false, false, false, false, false, false, false, true, false, false, false, false, false, false] (dSl (dVar 8) dNoPart (dPart (dC (.int 3)))) (dgSeq 3 (dgCons (dgName 9) (dgCons (dgName 10) (dgCons (dgName 11) dgNil))))) (dSeq (dSet 12 [false, false, false, false, false, false, false, false, true, false, true, false, false, false, false] (dIf (dTest (dOp (dI0 fun i j => .bl (decide (j < i))) (dVar 10) (dC (.int 0)))) (dOp dIx (dVar 8) (dUn (dU fun i => .int (-i)) (dC (.int 1)))) (dC (.int 0)))) (dSeq (dSet 13 [false, false, false, false, false, false, false, false, false, false, false, false, false, false, false] (dC (.int 1))) (dSeq (dForR [false, false, true, false, false, false, false, false, false, false, false, true, false, false, false] (dRng1 (dCons (dIf (dTest (dOp (dI0 fun i j => .bl (decide (i < j))) (dVar 11) (dVar 2))) (dVar 11) (dC (.int 0))) dNil)) (dgName 14) (dSet 13 [false, false, false, false, false, false, false, false, false, false, false, false, false, true, false] (dOp dTimes (dC (.int 2)) (dVar 13)))) (dSeq (dIfS [false, false, true, false, false, false, true, false, false, true, true, true, true, true, false] (dOr (dTest (dOp dEq (dVar 9) (dVar 6))) (dOr (dTest (dOp (dI0 fun i j => .bl (decide (j ≤ i))) (dVar 11) (dVar 2))) (dOr (dAnd (dTest (dOp dEq (dVar 10) (dC (.int 0)))) (dTest (dOp (dI0 fun i j => .bl (decide (j < i))) (dVar 11) (dC (.int 0))))) (dTest (dOp dNe (dOp (dI (fun _ j => 0 < j) fun i j => .int (i % j)) (dCB dInt (dCons (dVar 12) dNil)) (dVar 13)) (dC (.int 0))))))) (dRet [false, false, false, false, false, false, false, false, false, false, false, false, false, false, false] (dC .non)) dNext) (dRet [false, false, true, false, false, false, false, false, true, false, false, false, false, false, false] (dIf (dTest (dOp dEq (dCall 2 f_55 (dCons (dVar 2) (dCons (dOp dPlus (dSl (dVar 8) dNoPart (dPart (dC (.int 3)))) (dSl (dVar 8) (dPart (dC (.int 5))) dNoPart)) dNil))) (dSl (dVar 8) (dPart (dC (.int 3))) (dPart (dC (.int 5)))))) (dVar 8) (dC .non)))))))))))))
def f_57 : DF := fun ds n q => b_57 (endD q) (startD ["store", "slot", "width", "block", "cells", "half", "ones_v", "room", "words", "version", "many", "spare", "last", "low", "k"] ds) n
theorem sc_57 : FnScope ["store", "slot", "width", "block", "cells", "half", "ones_v", "room", "words", "version", "many", "spare", "last", "low", "k"] ["store", "slot"] (defScope (top 57)) := ⟨rfl, rfl, rfl, by decide, rfl, by decide +kernel, by decide +kernel⟩
theorem ok_57 {f : Addr} {fd : FuncData} (F : Fun K "_law_f_image" "_law_f_image" (top 57) f fd) (D__law_f_ones : Df P w K mg base "_law_f_ones" 1 ["width"] (spD 1 f_58)) (D__law_f_sums : Df P w K mg base "_law_f_sums" 1 ["width", "words"] (spD 2 f_55))  (m_int : mg "int" = none) (m_len : mg "len" = none) (m_range : mg "range" = none) : FnOk P w K mg base CX0 2 f fd ["store", "slot"] (spD 2 f_57) :=
  fn_data (k := 1) (fb := b_57) F sc_57 rfl (fun cdv A outer s0 H E hr => ⟨_, (pss_cons (ps_asg (pv 0) (pg_or (pg_tup rfl (pgs_cons (pg_name (i := 2) sc_57.nd rfl (Or.inl rfl)) (pgs_cons (pg_name (i := 3) sc_57.nd rfl (Or.inl rfl)) (pgs_cons (pg_name (i := 4) sc_57.nd rfl (Or.inl rfl)) pgs_nil)))) (pg_lst rfl (pgs_cons (pg_name (i := 2) sc_57.nd rfl (Or.inl rfl)) (pgs_cons (pg_name (i := 3) sc_57.nd rfl (Or.inl rfl)) (pgs_cons (pg_name (i := 4) sc_57.nd rfl (Or.inl rfl)) pgs_nil)))))) (pss_cons (ps_par (i := 5) (j := 6) (by rfl) sc_57.nd rfl rfl (by decide) rfl rfl (pa_cons (pe_op op_fdiv (pe_callB cr_len (by rfl) m_len (by decide +kernel) (pa_cons (pv 4) pa_nil)) pe_int) (pa_cons (pe_df D__law_f_ones (hr.mono (by decide)) (by rfl) (pa_cons (pv 2) pa_nil)) pa_nil)) (by rfl)) (pss_cons (ps_set (i := 7) sc_57.nd rfl (Or.inl rfl) (pe_slice sl_all (pv 4) (po_some (pe_op op_plus (pe_op op_times (pv 1) (pv 5)) pe_int)) (po_some (pe_op op_sub (pe_op op_plus (pe_op op_times (pv 1) (pv 5)) (pv 5)) pe_int)))) (pss_cons (ps_if (PW.pt (pw_or (pt_cmpR op_lt (pe_callB cr_len (by rfl) m_len (by decide +kernel) (pa_cons (pv 7) pa_nil)) pe_int (nomark _)) (pw_or (pt_cmpR (op_eqs hr.units) (pe_ix ix_seq (pv 7) pe_int (fun _ _ => rfl)) (pv 6) (nomark _)) (pw_or1 (pt_cmpR op_gt (pe_op op_plus (pe_ix ix_seq (pv 7) pe_int (fun _ _ => rfl)) pe_int) (pe_callB cr_len (by rfl) m_len (by decide +kernel) (pa_cons (pv 7) pa_nil)) (nomark _)))))) (pss_one (ps_ret pe_non)) pss_nil) (pss_cons (ps_set (i := 8) sc_57.nd rfl (Or.inl rfl) (pe_slice sl_all (pv 7) po_none (po_some (pe_op op_plus (pe_ix ix_seq (pv 7) pe_int (fun _ _ => rfl)) pe_int)))) (pss_cons (ps_asg (pe_slice sl_all (pv 8) po_none (po_some pe_int)) (pg_or (pg_tup rfl (pgs_cons (pg_name (i := 9) sc_57.nd rfl (Or.inl rfl)) (pgs_cons (pg_name (i := 10) sc_57.nd rfl (Or.inl rfl)) (pgs_cons (pg_name (i := 11) sc_57.nd rfl (Or.inl rfl)) pgs_nil)))) (pg_lst rfl (pgs_cons (pg_name (i := 9) sc_57.nd rfl (Or.inl rfl)) (pgs_cons (pg_name (i := 10) sc_57.nd rfl (Or.inl rfl)) (pgs_cons (pg_name (i := 11) sc_57.nd rfl (Or.inl rfl)) pgs_nil)))))) (pss_cons (ps_set (i := 12) sc_57.nd rfl (Or.inl rfl) (pe_ifExp (pt_cmpR op_gt (pv 10) pe_int (nomark _)) (pe_ix ix_seq (pv 8) (pe_un un_neg pe_int) (fun _ _ => rfl)) pe_int)) (pss_cons (ps_set (i := 13) sc_57.nd rfl (Or.inl rfl) pe_int) (pss_cons (ps_for PassesOwn.never rfl (pi_range1 (by rfl) m_range (pa_cons (pe_ifExp (pt_cmpR op_lt (pv 11) (pv 2) (nomark _)) (pv 11) pe_int) pa_nil)) (pg_name (i := 14) sc_57.nd rfl (Or.inl rfl)) (pss_one (ps_set (i := 13) sc_57.nd rfl (Or.inl rfl) (pe_op op_times pe_int (pv 13))))) (pss_cons (ps_if (PW.pt (pw_or (pt_cmpR (op_eqs hr.units) (pv 9) (pv 6) (nomark _)) (pw_or (pt_cmpR op_ge (pv 11) (pv 2) (nomark _)) (pw_or (PW.pt (pw_and (pt_cmpR (op_eqs hr.units) (pv 10) pe_int (nomark _)) (pw_and1 (pt_cmpR op_gt (pv 11) pe_int (nomark _))))) (pw_or1 (pt_cmpR (op_nes hr.units) (pe_op op_mod (pe_callTy call_int1 (by rfl) m_int (by decide +kernel) (pa_cons (pv 12) pa_nil)) (pv 13)) pe_int (nomark _))))))) (pss_one (ps_ret pe_non)) pss_nil) (pss_one (ps_ret (pe_ifExp (pt_cmpR (op_eqs hr.units) (pe_df D__law_f_sums (hr.mono (by decide)) (by rfl) (pa_cons (pv 2) (pa_cons (pe_op op_plus (pe_slice sl_all (pv 8) po_none (po_some pe_int)) (pe_slice sl_all (pv 8) (po_some pe_int) po_none)) pa_nil))) (pe_slice sl_all (pv 8) (po_some pe_int) (po_some pe_int)) (nomark _)) (pv 8) pe_non))))))))))))), (rs_seq (rs_asg [true, false, false, false, false, false, false, false, false, false, false, false, false, false, false] (re_var 0) (rgo_seq (rgos_cons (rgo_name 2) (rgos_cons (rgo_name 3) (rgos_cons (rgo_name 4) rgos_nil))))) (rs_seq (rs_par 5 6 [false, false, true, false, true, false, false, false, false, false, false, false, false, false, false] (ra_cons (re_op opd_i (re_cb cbd_len (ra_cons (re_var 4) ra_nil)) (re_int 2)) (ra_cons (re_call (ra_cons (re_var 2) ra_nil)) ra_nil))) (rs_seq (rs_set 7 [false, true, false, false, true, true, false, false, false, false, false, false, false, false, false] (re_sl (re_var 4) (ro_some (re_op opd_plus (re_op opd_times (re_var 1) (re_var 5)) (re_int 3))) (ro_some (re_op opd_i0 (re_op opd_plus (re_op opd_times (re_var 1) (re_var 5)) (re_var 5)) (re_int 1))))) (rs_seq (rs_if [false, false, false, false, false, false, true, true, false, false, false, false, false, false, false] (rt_or (rt_test (re_op opd_b0 (re_cb cbd_len (ra_cons (re_var 7) ra_nil)) (re_int 5))) (rt_or (rt_test (re_op opd_eq (re_op opd_ix (re_var 7) (re_int 1)) (re_var 6))) (rt_test (re_op opd_b0 (re_op opd_plus (re_op opd_ix (re_var 7) (re_int 1)) (re_int 5)) (re_cb cbd_len (ra_cons (re_var 7) ra_nil)))))) (rs_ret [false, false, false, false, false, false, false, false, false, false, false, false, false, false, false] re_non) rs_next) (rs_seq (rs_set 8 [false, false, false, false, false, false, false, true, false, false, false, false, false, false, false] (re_sl (re_var 7) ro_none (ro_some (re_op opd_plus (re_op opd_ix (re_var 7) (re_int 1)) (re_int 5))))) (rs_seq (rs_asg [false, false, false, false, false, false, false, false, true, false, false, false, false, false, false] (re_sl (re_var 8) ro_none (ro_some (re_int 3))) (rgo_seq (rgos_cons (rgo_name 9) (rgos_cons (rgo_name 10) (rgos_cons (rgo_name 11) rgos_nil))))) (rs_seq (rs_set 12 [false, false, false, false, false, false, false, false, true, false, true, false, false, false, false] (re_if (rt_test (re_op opd_b0 (re_var 10) (re_int 0))) (re_op opd_ix (re_var 8) (re_un und_i (re_int 1))) (re_int 0))) (rs_seq (rs_set 13 [false, false, false, false, false, false, false, false, false, false, false, false, false, false, false] (re_int 1)) (rs_seq (rs_forR [false, false, true, false, false, false, false, false, false, false, false, true, false, false, false] (ri0_rng1 (ra_cons (re_if (rt_test (re_op opd_b0 (re_var 11) (re_var 2))) (re_var 11) (re_int 0)) ra_nil)) (rgo_name 14) (rs_set 13 [false, false, false, false, false, false, false, false, false, false, false, false, false, true, false] (re_op opd_times (re_int 2) (re_var 13)))) (rs_seq (rs_if [false, false, true, false, false, false, true, false, false, true, true, true, true, true, false] (rt_or (rt_test (re_op opd_eq (re_var 9) (re_var 6))) (rt_or (rt_test (re_op opd_b0 (re_var 11) (re_var 2))) (rt_or (rt_and (rt_test (re_op opd_eq (re_var 10) (re_int 0))) (rt_test (re_op opd_b0 (re_var 11) (re_int 0)))) (rt_test (re_op opd_ne (re_op opd_i (re_cb cbd_int (ra_cons (re_var 12) ra_nil)) (re_var 13)) (re_int 0)))))) (rs_ret [false, false, false, false, false, false, false, false, false, false, false, false, false, false, false] re_non) rs_next) (rs_ret [false, false, true, false, false, false, false, false, true, false, false, false, false, false, false] (re_if (rt_test (re_op opd_eq (re_call (ra_cons (re_var 2) (ra_cons (re_op opd_plus (re_sl (re_var 8) ro_none (ro_some (re_int 3))) (re_sl (re_var 8) (ro_some (re_int 5)) ro_none)) ra_nil))) (re_sl (re_var 8) (ro_some (re_int 3)) (ro_some (re_int 5))))) (re_var 8) re_non))))))))))))⟩) (fun _ _ _ _ _ h => h)
/-- _law_f_fresh -/
def b_59 : DS := (dSeq (dPar3 4 5 6 [true, true, true, false, false, false, false] (dCons (dOp dTimes (dVar 1) (dVar 2)) (dCons (dCall 1 f_56 (dCons (dVar 0) dNil)) (dCons (dCall 1 f_58 (dCons (dVar 0) dNil)) dNil)))) (dRet [true, true, false, true, true, true, true] (dTup (dCons (dVar 0) (dCons (dVar 1) (dCons (dOp dPlus (dOp dPlus (dOp dPlus (dOp dPlus (dLst (dCons (dVar 5) (dCons (dC (.int 0)) (dCons (dC (.int 0)) dNil)))) (dCB dList (dCons (dVar 3) dNil))) (dOp dTimes (dLst (dCons (dVar 6) dNil)) (dOp (dI0 fun i j => .int (i - j)) (dOp (dI0 fun i j => .int (i - j)) (dVar 4) (dC (.int 4))) (dCB dLen (dCons (dVar 3) dNil))))) (dLst (dCons (dVar 5) dNil))) (dOp dTimes (dLst (dCons (dVar 6) dNil)) (dVar 4))) dNil))))))
def f_59 : DF := fun ds n q => b_59 (endD q) (startD ["width", "block", "blocks", "image", "size", "mark", "ones_v"] ds) n
theorem sc_59 : FnScope ["width", "block", "blocks", "image", "size", "mark", "ones_v"] ["width", "block", "blocks", "image"] (defScope (top 59)) := ⟨rfl, rfl, rfl, by decide, rfl, by decide +kernel, by decide +kernel⟩
theorem ok_59 {f : Addr} {fd : FuncData} (F : Fun K "_law_f_fresh" "_law_f_fresh" (top 59) f fd) (D__law_f_ones : Df P w K mg base "_law_f_ones" 1 ["width"] (spD 1 f_58)) (D__law_f_mark : Df P w K mg base "_law_f_mark" 1 ["width"] (spD 1 f_56))  (m_len : mg "len" = none) (m_list : mg "list" = none) : FnOk P w K mg base CX0 2 f fd ["width", "block", "blocks", "image"] (spD 4 f_59) :=
  fn_data (k := 1) (fb := b_59) F sc_59 rfl (fun cdv A outer s0 H E hr => ⟨_, (pss_cons (ps_par3 (i := 4) (j := 5) (l := 6) (by rfl) sc_59.nd rfl rfl rfl (by decide) (by decide) (by decide) rfl rfl rfl (pa_cons (pe_op op_times (pv 1) (pv 2)) (pa_cons (pe_df D__law_f_mark (hr.mono (by decide)) (by rfl) (pa_cons (pv 0) pa_nil)) (pa_cons (pe_df D__law_f_ones (hr.mono (by decide)) (by rfl) (pa_cons (pv 0) pa_nil)) pa_nil))) (by rfl)) (pss_one (ps_ret (pe_tup (pa_cons (pv 0) (pa_cons (pv 1) (pa_cons (pe_op op_plus (pe_op op_plus (pe_op op_plus (pe_op op_plus (pe_lst (pa_cons (pv 5) (pa_cons pe_int (pa_cons pe_int pa_nil)))) (pe_callTy call_list_of (by rfl) m_list (by decide +kernel) (pa_cons (pv 3) pa_nil))) (pe_op op_times (pe_lst (pa_cons (pv 6) pa_nil)) (pe_op op_sub (pe_op op_sub (pv 4) pe_int) (pe_callB cr_len (by rfl) m_len (by decide +kernel) (pa_cons (pv 3) pa_nil))))) (pe_lst (pa_cons (pv 5) pa_nil))) (pe_op op_times (pe_lst (pa_cons (pv 6) pa_nil)) (pv 4))) pa_nil))))))), (rs_seq (rs_par3 4 5 6 [true, true, true, false, false, false, false] (ra_cons (re_op opd_times (re_var 1) (re_var 2)) (ra_cons (re_call (ra_cons (re_var 0) ra_nil)) (ra_cons (re_call (ra_cons (re_var 0) ra_nil)) ra_nil)))) (rs_ret [true, true, false, true, true, true, true] (re_tup (ra_cons (re_var 0) (ra_cons (re_var 1) (ra_cons (re_op opd_plus (re_op opd_plus (re_op opd_plus (re_op opd_plus (re_lst (ra_cons (re_var 5) (ra_cons (re_int 0) (ra_cons (re_int 0) ra_nil)))) (re_cb cbd_list (ra_cons (re_var 3) ra_nil))) (re_op opd_times (re_lst (ra_cons (re_var 6) ra_nil)) (re_op opd_i0 (re_op opd_i0 (re_var 4) (re_int 4)) (re_cb cbd_len (ra_cons (re_var 3) ra_nil))))) (re_lst (ra_cons (re_var 5) ra_nil))) (re_op opd_times (re_lst (ra_cons (re_var 6) ra_nil)) (re_var 4))) ra_nil))))))⟩) (fun _ _ _ _ _ h => h)
/-- _law_f_and -/
def b_60 : DS := (dSeq (dAsg [false, false, false, false] (dTup (dCons (dC (.int 0)) (dCons (dC (.int 1)) dNil))) (dgSeq 2 (dgCons (dgName 2) (dgCons (dgName 3) dgNil)))) (dSeq (dWhile [true, true, false, true] (dTest (dOp (dI0 fun i j => .bl (decide (i ≤ j))) (dVar 3) (dCB dMaxB (dCons (dVar 0) (dCons (dVar 1) dNil))))) (dSeq (dSet 2 [true, true, true, true] (dOp dPlus (dVar 2) (dOp dTimes (dOp dTimes (dVar 3) (dOp (dI (fun _ j => 0 < j) fun i j => .int (i % j)) (dCB dInt (dCons (dOp (dI CDiv fun i j => .int (i / j)) (dVar 0) (dVar 3)) dNil)) (dC (.int 2)))) (dOp (dI (fun _ j => 0 < j) fun i j => .int (i % j)) (dCB dInt (dCons (dOp (dI CDiv fun i j => .int (i / j)) (dVar 1) (dVar 3)) dNil)) (dC (.int 2)))))) (dSet 3 [false, false, false, true] (dOp dTimes (dC (.int 2)) (dVar 3))))) (dRetV 2)))
def f_60 : DF := fun ds n q => b_60 (endD q) (startD ["one", "other", "found", "bit"] ds) n
theorem sc_60 : FnScope ["one", "other", "found", "bit"] ["one", "other"] (defScope (top 60)) := ⟨rfl, rfl, rfl, by decide, rfl, by decide +kernel, by decide +kernel⟩
theorem ok_60 {f : Addr} {fd : FuncData} (F : Fun K "_law_f_and" "_law_f_and" (top 60) f fd)   (m_int : mg "int" = none) (m_max : mg "max" = none) : FnOk P w K mg base CX0 1 f fd ["one", "other"] (spD 2 f_60) :=
  fn_data (k := 0) (fb := b_60) F sc_60 rfl (fun cdv A outer s0 H E hr => ⟨_, (pss_cons (ps_asg (pe_tup (pa_cons pe_int (pa_cons pe_int pa_nil))) (pg_or (pg_tup rfl (pgs_cons (pg_name (i := 2) sc_60.nd rfl (Or.inl rfl)) (pgs_cons (pg_name (i := 3) sc_60.nd rfl (Or.inl rfl)) pgs_nil))) (pg_lst rfl (pgs_cons (pg_name (i := 2) sc_60.nd rfl (Or.inl rfl)) (pgs_cons (pg_name (i := 3) sc_60.nd rfl (Or.inl rfl)) pgs_nil))))) (pss_cons (ps_while PassesOwn.never (pt_cmpR op_le (pv 3) (pe_callB (cr_maxB rfl) (by rfl) m_max (by decide +kernel) (pa_cons (pv 0) (pa_cons (pv 1) pa_nil))) (nomark _)) (pss_cons (ps_set (i := 2) sc_60.nd rfl (Or.inl rfl) (pe_op op_plus (pv 2) (pe_op op_times (pe_op op_times (pv 3) (pe_op op_mod (pe_callTy call_int1 (by rfl) m_int (by decide +kernel) (pa_cons (pe_op op_fdiv (pv 0) (pv 3)) pa_nil)) pe_int)) (pe_op op_mod (pe_callTy call_int1 (by rfl) m_int (by decide +kernel) (pa_cons (pe_op op_fdiv (pv 1) (pv 3)) pa_nil)) pe_int)))) (pss_one (ps_set (i := 3) sc_60.nd rfl (Or.inl rfl) (pe_op op_times pe_int (pv 3)))))) (pss_one (ps_ret (pv 2))))), (rs_seq (rs_asg [false, false, false, false] (re_tup (ra_cons (re_int 0) (ra_cons (re_int 1) ra_nil))) (rgo_seq (rgos_cons (rgo_name 2) (rgos_cons (rgo_name 3) rgos_nil)))) (rs_seq (rs_while [true, true, false, true] (rt_test (re_op opd_b0 (re_var 3) (re_cb cbd_maxB (ra_cons (re_var 0) (ra_cons (re_var 1) ra_nil))))) (rs_seq (rs_set 2 [true, true, true, true] (re_op opd_plus (re_var 2) (re_op opd_times (re_op opd_times (re_var 3) (re_op opd_i (re_cb cbd_int (ra_cons (re_op opd_i (re_var 0) (re_var 3)) ra_nil)) (re_int 2))) (re_op opd_i (re_cb cbd_int (ra_cons (re_op opd_i (re_var 1) (re_var 3)) ra_nil)) (re_int 2))))) (rs_set 3 [false, false, false, true] (re_op opd_times (re_int 2) (re_var 3))))) (rs_retV 2)))⟩) (fun _ _ _ _ _ h => h)
/-- _law_f_done -/
def b_61 : DS := (dSeq (dAsg [true, false, false, false, false, false] (dVar 0) (dgSeq 3 (dgCons (dgName 2) (dgCons (dgName 3) (dgCons (dgName 4) dgNil))))) (dSeq (dSet 5 [false, false, false, false, true, false] (dCB dList (dCons (dVar 4) dNil))) (dSeq (dIfS [false, true, false, false, false, false] (dTest (dOp dEq (dOp dIx (dVar 1) (dC (.int 0))) (dC (.str "write")))) (dSub 5 [false, true, false, false, false, true] (dCall 2 f_60 (dCons (dOp dIx (dVar 5) (dOp dIx (dVar 1) (dC (.int 1)))) (dCons (dOp dIx (dVar 1) (dC (.int 2))) dNil))) (dOp dIx (dVar 1) (dC (.int 1)))) (dSubSl 5 [false, true, true, true, false, true] (dOp dTimes (dLst (dCons (dCall 1 f_58 (dCons (dVar 2) dNil)) dNil)) (dVar 3)) (dOp dTimes (dOp dIx (dVar 1) (dC (.int 1))) (dVar 3)) (dOp dPlus (dOp dTimes (dOp dIx (dVar 1) (dC (.int 1))) (dVar 3)) (dVar 3)))) (dRet [false, false, true, true, false, true] (dTup (dCons (dVar 2) (dCons (dVar 3) (dCons (dVar 5) dNil))))))))
def f_61 : DF := fun ds n q => b_61 (endD q) (startD ["store", "op", "width", "block", "cells", "found"] ds) n
theorem sc_61 : FnScope ["store", "op", "width", "block", "cells", "found"] ["store", "op"] (defScope (top 61)) := ⟨rfl, rfl, rfl, by decide, rfl, by decide +kernel, by decide +kernel⟩
theorem ok_61 {f : Addr} {fd : FuncData} (F : Fun K "_law_f_done" "_law_f_done" (top 61) f fd) (D__law_f_and : Df P w K mg base "_law_f_and" 1 ["one", "other"] (spD 2 f_60)) (D__law_f_ones : Df P w K mg base "_law_f_ones" 1 ["width"] (spD 1 f_58))  (m_list : mg "list" = none) : FnOk P w K mg base CX0 2 f fd ["store", "op"] (spD 2 f_61) :=
  fn_data (k := 1) (fb := b_61) F sc_61 rfl (fun cdv A outer s0 H E hr => ⟨_, (pss_cons (ps_asg (pv 0) (pg_or (pg_tup rfl (pgs_cons (pg_name (i := 2) sc_61.nd rfl (Or.inl rfl)) (pgs_cons (pg_name (i := 3) sc_61.nd rfl (Or.inl rfl)) (pgs_cons (pg_name (i := 4) sc_61.nd rfl (Or.inl rfl)) pgs_nil)))) (pg_lst rfl (pgs_cons (pg_name (i := 2) sc_61.nd rfl (Or.inl rfl)) (pgs_cons (pg_name (i := 3) sc_61.nd rfl (Or.inl rfl)) (pgs_cons (pg_name (i := 4) sc_61.nd rfl (Or.inl rfl)) pgs_nil)))))) (pss_cons (ps_set (i := 5) sc_61.nd rfl (Or.inl rfl) (pe_callTy call_list_of (by rfl) m_list (by decide +kernel) (pa_cons (pv 4) pa_nil))) (pss_cons (ps_if (pt_cmpR (op_eqs hr.units) (pe_ix ix_seq (pv 1) pe_int (fun _ _ => rfl)) pe_str (nomark _)) (pss_one (ps_asg (pe_df D__law_f_and (hr.mono (by decide)) (by rfl) (pa_cons (pe_ix ix_seq (pv 5) (pe_ix ix_seq (pv 1) pe_int (fun _ _ => rfl)) (fun _ _ => rfl)) (pa_cons (pe_ix ix_seq (pv 1) pe_int (fun _ _ => rfl)) pa_nil))) (pg_sub (pv 5) (pe_ix ix_seq (pv 1) pe_int (fun _ _ => rfl)) set_list))) (pss_one (ps_asg (pe_op op_times (pe_lst (pa_cons (pe_df D__law_f_ones (hr.mono (by decide)) (by rfl) (pa_cons (pv 2) pa_nil)) pa_nil)) (pv 3)) (pg_subSl (pv 5) (pe_op op_times (pe_ix ix_seq (pv 1) pe_int (fun _ _ => rfl)) (pv 3)) (pe_op op_plus (pe_op op_times (pe_ix ix_seq (pv 1) pe_int (fun _ _ => rfl)) (pv 3)) (pv 3)))))) (pss_one (ps_ret (pe_tup (pa_cons (pv 2) (pa_cons (pv 3) (pa_cons (pv 5) pa_nil))))))))), (rs_seq (rs_asg [true, false, false, false, false, false] (re_var 0) (rgo_seq (rgos_cons (rgo_name 2) (rgos_cons (rgo_name 3) (rgos_cons (rgo_name 4) rgos_nil))))) (rs_seq (rs_set 5 [false, false, false, false, true, false] (re_cb cbd_list (ra_cons (re_var 4) ra_nil))) (rs_seq (rs_if [false, true, false, false, false, false] (rt_test (re_op opd_eq (re_op opd_ix (re_var 1) (re_int 0)) (re_str "write"))) (rs_sub 5 [false, true, false, false, false, true] (re_call (ra_cons (re_op opd_ix (re_var 5) (re_op opd_ix (re_var 1) (re_int 1))) (ra_cons (re_op opd_ix (re_var 1) (re_int 2)) ra_nil))) (re_op opd_ix (re_var 1) (re_int 1))) (rs_subSl 5 [false, true, true, true, false, true] (re_op opd_times (re_lst (ra_cons (re_call (ra_cons (re_var 2) ra_nil)) ra_nil)) (re_var 3)) (re_op opd_times (re_op opd_ix (re_var 1) (re_int 1)) (re_var 3)) (re_op opd_plus (re_op opd_times (re_op opd_ix (re_var 1) (re_int 1)) (re_var 3)) (re_var 3)))) (rs_ret [false, false, true, true, false, true] (re_tup (ra_cons (re_var 2) (ra_cons (re_var 3) (ra_cons (re_var 5) ra_nil))))))))⟩) (fun _ _ _ _ _ h => h)
/-- _law_f_torn -/
def b_62 : DS := (dSeq (dAsg [false, true, false, false, false, false, false, false, false, false, false, false, false, false, false, false, false] (dVar 1) (dgSeq 3 (dgCons (dgName 3) (dgCons (dgName 4) (dgCons (dgName 5) dgNil))))) (dSeq (dAsg [false, false, true, false, true, false, false, false, false, false, false, false, false, false, false, false, false] (dIf (dTest (dOp dEq (dOp dIx (dVar 2) (dC (.int 0))) (dC (.str "write")))) (dTup (dCons (dOp dIx (dVar 2) (dC (.int 1))) (dCons (dC (.int 1)) dNil))) (dTup (dCons (dOp dTimes (dOp dIx (dVar 2) (dC (.int 1))) (dVar 4)) (dCons (dVar 4) dNil)))) (dgSeq 2 (dgCons (dgName 6) (dgCons (dgName 7) dgNil)))) (dSeq (dPar3 8 9 10 [true, true, true, false, false, false, false, false, false, false, false, false, false, false, false, false, false] (dCons (dOp dIx (dCall 2 f_61 (dCons (dVar 1) (dCons (dVar 2) dNil))) (dC (.int 2))) (dCons (dCall 2 fDraw (dCons (dVar 0) (dCons (dC (.int 4)) dNil))) (dCons (dLst dNil) dNil)))) (dSeq (dForR [false, false, false, false, false, false, true, true, false, false, false, false, false, false, false, false, false] (dRng2 (dCons (dVar 6) (dCons (dOp dPlus (dVar 6) (dVar 7)) dNil))) (dgName 11) (dSeq (dPar3 12 13 14 [false, false, false, false, false, true, false, false, true, false, false, true, false, false, false, false, false] (dCons (dTup (dCons (dOp dIx (dVar 5) (dVar 11)) (dCons (dOp dIx (dVar 8) (dVar 11)) dNil))) (dCons (dC (.int 1)) (dCons (dCall 2 f_60 (dCons (dOp dIx (dVar 5) (dVar 11)) (dCons (dOp dIx (dVar 8) (dVar 11)) dNil))) dNil)))) (dSeq (dWhile [false, false, false, false, false, false, false, false, false, false, false, false, true, true, false, false, false] (dTest (dOp (dI0 fun i j => .bl (decide (i ≤ j))) (dVar 13) (dCB dMaxB (dCons (dVar 12) dNil)))) (dSeq (dSet 15 [false, false, false, false, false, false, false, false, false, false, false, false, true, true, false, false, false] (dOp dNe (dOp (dI (fun _ j => 0 < j) fun i j => .int (i % j)) (dCB dInt (dCons (dOp (dI CDiv fun i j => .int (i / j)) (dOp dIx (dVar 12) (dC (.int 0))) (dVar 13)) dNil)) (dC (.int 2))) (dOp (dI (fun _ j => 0 < j) fun i j => .int (i % j)) (dCB dInt (dCons (dOp (dI CDiv fun i j => .int (i / j)) (dOp dIx (dVar 12) (dC (.int 1))) (dVar 13)) dNil)) (dC (.int 2))))) (dSeq (dSet 16 [true, false, false, false, false, false, false, false, false, true, false, false, false, false, false, false, false] (dIf (dTest (dOp (dI0 fun i j => .bl (decide (i < j))) (dVar 9) (dC (.int 2)))) (dOp dEq (dVar 9) (dC (.int 1))) (dOp dEq (dCall 2 fDraw (dCons (dVar 0) (dCons (dC (.int 2)) dNil))) (dC (.int 0))))) (dSeq (dSet 14 [false, false, false, false, false, false, false, false, false, false, false, false, false, true, true, true, true] (dOp dPlus (dVar 14) (dIf (dAnd (dTruth (dVar 15)) (dTruth (dVar 16))) (dVar 13) (dC (.int 0))))) (dSet 13 [false, false, false, false, false, false, false, false, false, false, false, false, false, true, false, false, false] (dOp dTimes (dC (.int 2)) (dVar 13))))))) (dApp 10 [false, false, false, false, false, false, false, false, false, false, false, false, false, false, true, false, false] (dVar 14))))) (dRetV 10)))))
def f_62 : DF := fun ds n q => b_62 (endD q) (startD ["stream", "store", "op", "width", "block", "cells", "begin", "many", "target", "way", "found", "at", "lost", "bit", "word", "turned", "chosen"] ds) n
theorem sc_62 : FnScope ["stream", "store", "op", "width", "block", "cells", "begin", "many", "target", "way", "found", "at", "lost", "bit", "word", "turned", "chosen"] ["stream", "store", "op"] (defScope (top 62)) := ⟨rfl, rfl, rfl, by decide, rfl, by decide +kernel, by decide +kernel⟩
theorem ok_62 {f : Addr} {fd : FuncData} (F : Fun K "_law_f_torn" "_law_f_torn" (top 62) f fd) (D__law_draw : Df P w K mg base "_law_draw" 1 ["stream", "many"] (spD 2 fDraw)) (D__law_f_done : Df P w K mg base "_law_f_done" 2 ["store", "op"] (spD 2 f_61)) (D__law_f_and : Df P w K mg base "_law_f_and" 1 ["one", "other"] (spD 2 f_60))  (m_int : mg "int" = none) (m_max : mg "max" = none) (m_range : mg "range" = none) : FnOk P w K mg base CX0 3 f fd ["stream", "store", "op"] (spD 3 f_62) :=
  fn_data (k := 2) (fb := b_62) F sc_62 rfl (fun cdv A outer s0 H E hr => ⟨_, (pss_cons (ps_asg (pv 1) (pg_or (pg_tup rfl (pgs_cons (pg_name (i := 3) sc_62.nd rfl (Or.inl rfl)) (pgs_cons (pg_name (i := 4) sc_62.nd rfl (Or.inl rfl)) (pgs_cons (pg_name (i := 5) sc_62.nd rfl (Or.inl rfl)) pgs_nil)))) (pg_lst rfl (pgs_cons (pg_name (i := 3) sc_62.nd rfl (Or.inl rfl)) (pgs_cons (pg_name (i := 4) sc_62.nd rfl (Or.inl rfl)) (pgs_cons (pg_name (i := 5) sc_62.nd rfl (Or.inl rfl)) pgs_nil)))))) (pss_cons (ps_asg (pe_ifExp (pt_cmpR (op_eqs hr.units) (pe_ix ix_seq (pv 2) pe_int (fun _ _ => rfl)) pe_str (nomark _)) (pe_tup (pa_cons (pe_ix ix_seq (pv 2) pe_int (fun _ _ => rfl)) (pa_cons pe_int pa_nil))) (pe_tup (pa_cons (pe_op op_times (pe_ix ix_seq (pv 2) pe_int (fun _ _ => rfl)) (pv 4)) (pa_cons (pv 4) pa_nil)))) (pg_or (pg_tup rfl (pgs_cons (pg_name (i := 6) sc_62.nd rfl (Or.inl rfl)) (pgs_cons (pg_name (i := 7) sc_62.nd rfl (Or.inl rfl)) pgs_nil))) (pg_lst rfl (pgs_cons (pg_name (i := 6) sc_62.nd rfl (Or.inl rfl)) (pgs_cons (pg_name (i := 7) sc_62.nd rfl (Or.inl rfl)) pgs_nil))))) (pss_cons (ps_par3 (i := 8) (j := 9) (l := 10) (by rfl) sc_62.nd rfl rfl rfl (by decide) (by decide) (by decide) rfl rfl rfl (pa_cons (pe_ix ix_seq (pe_df D__law_f_done (hr.mono (by decide)) (by rfl) (pa_cons (pv 1) (pa_cons (pv 2) pa_nil))) pe_int (fun _ _ => rfl)) (pa_cons (pe_df D__law_draw (hr.mono (by decide)) (by rfl) (pa_cons (pv 0) (pa_cons pe_int pa_nil))) (pa_cons (pe_lst pa_nil) pa_nil))) (by rfl)) (pss_cons (ps_for PassesOwn.never rfl (pi_range2 (by rfl) m_range (pa_cons (pv 6) (pa_cons (pe_op op_plus (pv 6) (pv 7)) pa_nil))) (pg_name (i := 11) sc_62.nd rfl (Or.inl rfl)) (pss_cons (ps_par3 (i := 12) (j := 13) (l := 14) (by rfl) sc_62.nd rfl rfl rfl (by decide) (by decide) (by decide) rfl rfl rfl (pa_cons (pe_tup (pa_cons (pe_ix ix_seq (pv 5) (pv 11) (fun _ _ => rfl)) (pa_cons (pe_ix ix_seq (pv 8) (pv 11) (fun _ _ => rfl)) pa_nil))) (pa_cons pe_int (pa_cons (pe_df D__law_f_and (hr.mono (by decide)) (by rfl) (pa_cons (pe_ix ix_seq (pv 5) (pv 11) (fun _ _ => rfl)) (pa_cons (pe_ix ix_seq (pv 8) (pv 11) (fun _ _ => rfl)) pa_nil))) pa_nil))) (by rfl)) (pss_cons (ps_while PassesOwn.never (pt_cmpR op_le (pv 13) (pe_callB (cr_maxB rfl) (by rfl) m_max (by decide +kernel) (pa_cons (pv 12) pa_nil)) (nomark _)) (pss_cons (ps_set (i := 15) sc_62.nd rfl (Or.inl rfl) (pe_cmpR (op_nes hr.units) (pe_op op_mod (pe_callTy call_int1 (by rfl) m_int (by decide +kernel) (pa_cons (pe_op op_fdiv (pe_ix ix_seq (pv 12) pe_int (fun _ _ => rfl)) (pv 13)) pa_nil)) pe_int) (pe_op op_mod (pe_callTy call_int1 (by rfl) m_int (by decide +kernel) (pa_cons (pe_op op_fdiv (pe_ix ix_seq (pv 12) pe_int (fun _ _ => rfl)) (pv 13)) pa_nil)) pe_int) (nomark _))) (pss_cons (ps_set (i := 16) sc_62.nd rfl (Or.inl rfl) (pe_ifExp (pt_cmpR op_lt (pv 9) pe_int (nomark _)) (pe_cmpR (op_eqs hr.units) (pv 9) pe_int (nomark _)) (pe_cmpR (op_eqs hr.units) (pe_df D__law_draw (hr.mono (by decide)) (by rfl) (pa_cons (pv 0) (pa_cons pe_int pa_nil))) pe_int (nomark _)))) (pss_cons (ps_set (i := 14) sc_62.nd rfl (Or.inl rfl) (pe_op op_plus (pv 14) (pe_ifExp (PW.pt (pw_and (pt_truth (pv 15) (by intro _; rfl)) (pw_and1 (pt_truth (pv 16) (by intro _; rfl))))) (pv 13) pe_int))) (pss_one (ps_set (i := 13) sc_62.nd rfl (Or.inl rfl) (pe_op op_times pe_int (pv 13)))))))) (pss_one (ps_expr (pe_bm PySem.F.plainAttrs_list PySem.F.slot_list_append PySem.F.type_list_append mt_append (pv 10) (pa_cons (pv 14) pa_nil))))))) (pss_one (ps_ret (pv 10))))))), (rs_seq (rs_asg [false, true, false, false, false, false, false, false, false, false, false, false, false, false, false, false, false] (re_var 1) (rgo_seq (rgos_cons (rgo_name 3) (rgos_cons (rgo_name 4) (rgos_cons (rgo_name 5) rgos_nil))))) (rs_seq (rs_asg [false, false, true, false, true, false, false, false, false, false, false, false, false, false, false, false, false] (re_if (rt_test (re_op opd_eq (re_op opd_ix (re_var 2) (re_int 0)) (re_str "write"))) (re_tup (ra_cons (re_op opd_ix (re_var 2) (re_int 1)) (ra_cons (re_int 1) ra_nil))) (re_tup (ra_cons (re_op opd_times (re_op opd_ix (re_var 2) (re_int 1)) (re_var 4)) (ra_cons (re_var 4) ra_nil)))) (rgo_seq (rgos_cons (rgo_name 6) (rgos_cons (rgo_name 7) rgos_nil)))) (rs_seq (rs_par3 8 9 10 [true, true, true, false, false, false, false, false, false, false, false, false, false, false, false, false, false] (ra_cons (re_op opd_ix (re_call (ra_cons (re_var 1) (ra_cons (re_var 2) ra_nil))) (re_int 2)) (ra_cons (re_call (ra_cons (re_var 0) (ra_cons (re_int 4) ra_nil))) (ra_cons (re_lst ra_nil) ra_nil)))) (rs_seq (rs_forR [false, false, false, false, false, false, true, true, false, false, false, false, false, false, false, false, false] (ri0_rng2 (ra_cons (re_var 6) (ra_cons (re_op opd_plus (re_var 6) (re_var 7)) ra_nil))) (rgo_name 11) (rs_seq (rs_par3 12 13 14 [false, false, false, false, false, true, false, false, true, false, false, true, false, false, false, false, false] (ra_cons (re_tup (ra_cons (re_op opd_ix (re_var 5) (re_var 11)) (ra_cons (re_op opd_ix (re_var 8) (re_var 11)) ra_nil))) (ra_cons (re_int 1) (ra_cons (re_call (ra_cons (re_op opd_ix (re_var 5) (re_var 11)) (ra_cons (re_op opd_ix (re_var 8) (re_var 11)) ra_nil))) ra_nil)))) (rs_seq (rs_while [false, false, false, false, false, false, false, false, false, false, false, false, true, true, false, false, false] (rt_test (re_op opd_b0 (re_var 13) (re_cb cbd_maxB (ra_cons (re_var 12) ra_nil)))) (rs_seq (rs_set 15 [false, false, false, false, false, false, false, false, false, false, false, false, true, true, false, false, false] (re_op opd_ne (re_op opd_i (re_cb cbd_int (ra_cons (re_op opd_i (re_op opd_ix (re_var 12) (re_int 0)) (re_var 13)) ra_nil)) (re_int 2)) (re_op opd_i (re_cb cbd_int (ra_cons (re_op opd_i (re_op opd_ix (re_var 12) (re_int 1)) (re_var 13)) ra_nil)) (re_int 2)))) (rs_seq (rs_set 16 [true, false, false, false, false, false, false, false, false, true, false, false, false, false, false, false, false] (re_if (rt_test (re_op opd_b0 (re_var 9) (re_int 2))) (re_op opd_eq (re_var 9) (re_int 1)) (re_op opd_eq (re_call (ra_cons (re_var 0) (ra_cons (re_int 2) ra_nil))) (re_int 0)))) (rs_seq (rs_set 14 [false, false, false, false, false, false, false, false, false, false, false, false, false, true, true, true, true] (re_op opd_plus (re_var 14) (re_if (rt_and (rt_truth (re_var 15)) (rt_truth (re_var 16))) (re_var 13) (re_int 0)))) (rs_set 13 [false, false, false, false, false, false, false, false, false, false, false, false, false, true, false, false, false] (re_op opd_times (re_int 2) (re_var 13))))))) (rs_app 10 [false, false, false, false, false, false, false, false, false, false, false, false, false, false, true, false, false] (re_var 14))))) (rs_retV 10)))))⟩) (fun _ _ _ _ _ h => h)
/-- _law_f_cut -/
def b_63 : DS := (dSeq (dFor [false, true, true, false, false, false, false, false, false, false] (dItems (dSl (dVar 1) dNoPart (dPart (dVar 2)))) (dgName 4) (dSet 0 [true, false, false, false, true, false, false, false, false, false] (dCall 2 f_61 (dCons (dVar 0) (dCons (dVar 4) dNil))))) (dSeq (dAsg [true, false, false, false, false, false, false, false, false, false] (dVar 0) (dgSeq 3 (dgCons (dgName 5) (dgCons (dgName 6) (dgCons (dgName 7) dgNil))))) (dSeq (dSet 4 [false, true, true, false, false, false, false, false, false, false] (dOp dIx (dVar 1) (dVar 2))) (dSeq (dAsg [false, false, false, false, true, false, true, false, false, false] (dIf (dTest (dOp dEq (dOp dIx (dVar 4) (dC (.int 0))) (dC (.str "write")))) (dTup (dCons (dOp dIx (dVar 4) (dC (.int 1))) (dCons (dC (.int 1)) dNil))) (dTup (dCons (dOp dTimes (dOp dIx (dVar 4) (dC (.int 1))) (dVar 6)) (dCons (dVar 6) dNil)))) (dgSeq 2 (dgCons (dgName 8) (dgCons (dgName 9) dgNil)))) (dRet [false, false, false, true, false, true, true, true, true, true] (dTup (dCons (dVar 5) (dCons (dVar 6) (dCons (dOp dPlus (dOp dPlus (dSl (dVar 7) dNoPart (dPart (dVar 8))) (dCB dList (dCons (dVar 3) dNil))) (dSl (dVar 7) (dPart (dOp dPlus (dVar 8) (dVar 9))) dNoPart)) dNil)))))))))
def f_63 : DF := fun ds n q => b_63 (endD q) (startD ["store", "ops", "index", "torn", "op", "width", "block", "cells", "begin", "many"] ds) n
theorem sc_63 : FnScope ["store", "ops", "index", "torn", "op", "width", "block", "cells", "begin", "many"] ["store", "ops", "index", "torn"] (defScope (top 63)) := ⟨rfl, rfl, rfl, by decide, rfl, by decide +kernel, by decide +kernel⟩
theorem ok_63 {f : Addr} {fd : FuncData} (F : Fun K "_law_f_cut" "_law_f_cut" (top 63) f fd) (D__law_f_done : Df P w K mg base "_law_f_done" 2 ["store", "op"] (spD 2 f_61))  (m_list : mg "list" = none) : FnOk P w K mg base CX0 3 f fd ["store", "ops", "index", "torn"] (spD 4 f_63) :=
  fn_data (k := 2) (fb := b_63) F sc_63 rfl (fun cdv A outer s0 H E hr => ⟨_, (pss_cons (ps_for PassesOwn.never rfl (pi_lt (pe_slice sl_all (pv 1) po_none (po_some (pv 2)))) (pg_name (i := 4) sc_63.nd rfl (Or.inl rfl)) (pss_one (ps_set (i := 0) sc_63.nd rfl (Or.inl rfl) (pe_df D__law_f_done (hr.mono (by decide)) (by rfl) (pa_cons (pv 0) (pa_cons (pv 4) pa_nil)))))) (pss_cons (ps_asg (pv 0) (pg_or (pg_tup rfl (pgs_cons (pg_name (i := 5) sc_63.nd rfl (Or.inl rfl)) (pgs_cons (pg_name (i := 6) sc_63.nd rfl (Or.inl rfl)) (pgs_cons (pg_name (i := 7) sc_63.nd rfl (Or.inl rfl)) pgs_nil)))) (pg_lst rfl (pgs_cons (pg_name (i := 5) sc_63.nd rfl (Or.inl rfl)) (pgs_cons (pg_name (i := 6) sc_63.nd rfl (Or.inl rfl)) (pgs_cons (pg_name (i := 7) sc_63.nd rfl (Or.inl rfl)) pgs_nil)))))) (pss_cons (ps_set (i := 4) sc_63.nd rfl (Or.inl rfl) (pe_ix ix_seq (pv 1) (pv 2) (fun _ _ => rfl))) (pss_cons (ps_asg (pe_ifExp (pt_cmpR (op_eqs hr.units) (pe_ix ix_seq (pv 4) pe_int (fun _ _ => rfl)) pe_str (nomark _)) (pe_tup (pa_cons (pe_ix ix_seq (pv 4) pe_int (fun _ _ => rfl)) (pa_cons pe_int pa_nil))) (pe_tup (pa_cons (pe_op op_times (pe_ix ix_seq (pv 4) pe_int (fun _ _ => rfl)) (pv 6)) (pa_cons (pv 6) pa_nil)))) (pg_or (pg_tup rfl (pgs_cons (pg_name (i := 8) sc_63.nd rfl (Or.inl rfl)) (pgs_cons (pg_name (i := 9) sc_63.nd rfl (Or.inl rfl)) pgs_nil))) (pg_lst rfl (pgs_cons (pg_name (i := 8) sc_63.nd rfl (Or.inl rfl)) (pgs_cons (pg_name (i := 9) sc_63.nd rfl (Or.inl rfl)) pgs_nil))))) (pss_one (ps_ret (pe_tup (pa_cons (pv 5) (pa_cons (pv 6) (pa_cons (pe_op op_plus (pe_op op_plus (pe_slice sl_all (pv 7) po_none (po_some (pv 8))) (pe_callTy call_list_of (by rfl) m_list (by decide +kernel) (pa_cons (pv 3) pa_nil))) (pe_slice sl_all (pv 7) (po_some (pe_op op_plus (pv 8) (pv 9))) po_none)) pa_nil)))))))))), (rs_seq (rs_for [false, true, true, false, false, false, false, false, false, false] (ri_lt (re_sl (re_var 1) ro_none (ro_some (re_var 2)))) (rgo_name 4) (rs_set 0 [true, false, false, false, true, false, false, false, false, false] (re_call (ra_cons (re_var 0) (ra_cons (re_var 4) ra_nil))))) (rs_seq (rs_asg [true, false, false, false, false, false, false, false, false, false] (re_var 0) (rgo_seq (rgos_cons (rgo_name 5) (rgos_cons (rgo_name 6) (rgos_cons (rgo_name 7) rgos_nil))))) (rs_seq (rs_set 4 [false, true, true, false, false, false, false, false, false, false] (re_op opd_ix (re_var 1) (re_var 2))) (rs_seq (rs_asg [false, false, false, false, true, false, true, false, false, false] (re_if (rt_test (re_op opd_eq (re_op opd_ix (re_var 4) (re_int 0)) (re_str "write"))) (re_tup (ra_cons (re_op opd_ix (re_var 4) (re_int 1)) (ra_cons (re_int 1) ra_nil))) (re_tup (ra_cons (re_op opd_times (re_op opd_ix (re_var 4) (re_int 1)) (re_var 6)) (ra_cons (re_var 6) ra_nil)))) (rgo_seq (rgos_cons (rgo_name 8) (rgos_cons (rgo_name 9) rgos_nil)))) (rs_ret [false, false, false, true, false, true, true, true, true, true] (re_tup (ra_cons (re_var 5) (ra_cons (re_var 6) (ra_cons (re_op opd_plus (re_op opd_plus (re_sl (re_var 7) ro_none (ro_some (re_var 8))) (re_cb cbd_list (ra_cons (re_var 3) ra_nil))) (re_sl (re_var 7) (ro_some (re_op opd_plus (re_var 8) (re_var 9))) ro_none)) ra_nil)))))))))⟩) (fun _ _ _ _ _ h => h)
/-- _law_f_is_torn -/
def b_64 : DS := (dSeq (dFor [false, true, true, false, false, false, false, false, false, false, false, false, false, false, false, false] (dItems (dSl (dVar 1) dNoPart (dPart (dVar 2)))) (dgName 4) (dSet 0 [true, false, false, false, true, false, false, false, false, false, false, false, false, false, false, false] (dCall 2 f_61 (dCons (dVar 0) (dCons (dVar 4) dNil))))) (dSeq (dAsg [true, false, false, false, false, false, false, false, false, false, false, false, false, false, false, false] (dVar 0) (dgSeq 3 (dgCons (dgName 5) (dgCons (dgName 6) (dgCons (dgName 7) dgNil))))) (dSeq (dSet 4 [false, true, true, false, false, false, false, false, false, false, false, false, false, false, false, false] (dOp dIx (dVar 1) (dVar 2))) (dSeq (dAsg [false, false, false, false, true, false, true, false, false, false, false, false, false, false, false, false] (dIf (dTest (dOp dEq (dOp dIx (dVar 4) (dC (.int 0))) (dC (.str "write")))) (dTup (dCons (dOp dIx (dVar 4) (dC (.int 1))) (dCons (dC (.int 1)) dNil))) (dTup (dCons (dOp dTimes (dOp dIx (dVar 4) (dC (.int 1))) (dVar 6)) (dCons (dVar 6) dNil)))) (dgSeq 2 (dgCons (dgName 8) (dgCons (dgName 9) dgNil)))) (dSeq (dSet 10 [true, false, false, false, true, false, false, false, false, false, false, false, false, false, false, false] (dOp dIx (dCall 2 f_61 (dCons (dVar 0) (dCons (dVar 4) dNil))) (dC (.int 2)))) (dSeq (dIfS [false, false, false, true, false, false, false, false, false, true, false, false, false, false, false, false] (dTest (dOp dNe (dCB dLen (dCons (dVar 3) dNil)) (dVar 9))) (dRet [false, false, false, false, false, false, false, false, false, false, false, false, false, false, false, false] (dC (.bl false))) dNext) (dSeq (dForR [false, false, false, false, false, false, false, false, false, true, false, false, false, false, false, false] (dRng1 (dCons (dVar 9) dNil)) (dgName 11) (dSeq (dPar 12 13 [false, false, false, false, false, false, false, true, true, false, true, true, false, false, false, false] (dCons (dOp dIx (dVar 7) (dOp dPlus (dVar 8) (dVar 11))) (dCons (dOp dIx (dVar 10) (dOp dPlus (dVar 8) (dVar 11))) dNil))) (dSeq (dAsg [false, false, false, false, true, false, false, false, false, false, false, false, true, true, false, false] (dIf (dTest (dOp dEq (dOp dIx (dVar 4) (dC (.int 0))) (dC (.str "write")))) (dTup (dCons (dVar 13) (dCons (dVar 12) dNil))) (dTup (dCons (dVar 12) (dCons (dVar 13) dNil)))) (dgSeq 2 (dgCons (dgName 14) (dgCons (dgName 15) dgNil)))) (dIfS [false, false, false, true, false, false, false, false, false, false, false, true, false, false, true, true] (dOr (dTest (dOp dNe (dCall 2 f_60 (dCons (dVar 14) (dCons (dOp dIx (dVar 3) (dVar 11)) dNil))) (dVar 14))) (dTest (dOp dNe (dCall 2 f_60 (dCons (dOp dIx (dVar 3) (dVar 11)) (dCons (dVar 15) dNil))) (dOp dIx (dVar 3) (dVar 11))))) (dRet [false, false, false, false, false, false, false, false, false, false, false, false, false, false, false, false] (dC (.bl false))) dNext)))) (dRet [false, false, false, false, false, false, false, false, false, false, false, false, false, false, false, false] (dC (.bl true))))))))))
def f_64 : DF := fun ds n q => b_64 (endD q) (startD ["store", "ops", "index", "torn", "op", "width", "block", "cells", "begin", "many", "target", "at", "old", "new", "low", "high"] ds) n
theorem sc_64 : FnScope ["store", "ops", "index", "torn", "op", "width", "block", "cells", "begin", "many", "target", "at", "old", "new", "low", "high"] ["store", "ops", "index", "torn"] (defScope (top 64)) := ⟨rfl, rfl, rfl, by decide, rfl, by decide +kernel, by decide +kernel⟩
theorem ok_64 {f : Addr} {fd : FuncData} (F : Fun K "_law_f_is_torn" "_law_f_is_torn" (top 64) f fd) (D__law_f_done : Df P w K mg base "_law_f_done" 2 ["store", "op"] (spD 2 f_61)) (D__law_f_and : Df P w K mg base "_law_f_and" 1 ["one", "other"] (spD 2 f_60))  (m_len : mg "len" = none) (m_range : mg "range" = none) : FnOk P w K mg base CX0 3 f fd ["store", "ops", "index", "torn"] (spD 4 f_64) :=
  fn_data (k := 2) (fb := b_64) F sc_64 rfl (fun cdv A outer s0 H E hr => ⟨_, (pss_cons (ps_for PassesOwn.never rfl (pi_lt (pe_slice sl_all (pv 1) po_none (po_some (pv 2)))) (pg_name (i := 4) sc_64.nd rfl (Or.inl rfl)) (pss_one (ps_set (i := 0) sc_64.nd rfl (Or.inl rfl) (pe_df D__law_f_done (hr.mono (by decide)) (by rfl) (pa_cons (pv 0) (pa_cons (pv 4) pa_nil)))))) (pss_cons (ps_asg (pv 0) (pg_or (pg_tup rfl (pgs_cons (pg_name (i := 5) sc_64.nd rfl (Or.inl rfl)) (pgs_cons (pg_name (i := 6) sc_64.nd rfl (Or.inl rfl)) (pgs_cons (pg_name (i := 7) sc_64.nd rfl (Or.inl rfl)) pgs_nil)))) (pg_lst rfl (pgs_cons (pg_name (i := 5) sc_64.nd rfl (Or.inl rfl)) (pgs_cons (pg_name (i := 6) sc_64.nd rfl (Or.inl rfl)) (pgs_cons (pg_name (i := 7) sc_64.nd rfl (Or.inl rfl)) pgs_nil)))))) (pss_cons (ps_set (i := 4) sc_64.nd rfl (Or.inl rfl) (pe_ix ix_seq (pv 1) (pv 2) (fun _ _ => rfl))) (pss_cons (ps_asg (pe_ifExp (pt_cmpR (op_eqs hr.units) (pe_ix ix_seq (pv 4) pe_int (fun _ _ => rfl)) pe_str (nomark _)) (pe_tup (pa_cons (pe_ix ix_seq (pv 4) pe_int (fun _ _ => rfl)) (pa_cons pe_int pa_nil))) (pe_tup (pa_cons (pe_op op_times (pe_ix ix_seq (pv 4) pe_int (fun _ _ => rfl)) (pv 6)) (pa_cons (pv 6) pa_nil)))) (pg_or (pg_tup rfl (pgs_cons (pg_name (i := 8) sc_64.nd rfl (Or.inl rfl)) (pgs_cons (pg_name (i := 9) sc_64.nd rfl (Or.inl rfl)) pgs_nil))) (pg_lst rfl (pgs_cons (pg_name (i := 8) sc_64.nd rfl (Or.inl rfl)) (pgs_cons (pg_name (i := 9) sc_64.nd rfl (Or.inl rfl)) pgs_nil))))) (pss_cons (ps_set (i := 10) sc_64.nd rfl (Or.inl rfl) (pe_ix ix_seq (pe_df D__law_f_done (hr.mono (by decide)) (by rfl) (pa_cons (pv 0) (pa_cons (pv 4) pa_nil))) pe_int (fun _ _ => rfl))) (pss_cons (ps_if (pt_cmpR (op_nes hr.units) (pe_callB cr_len (by rfl) m_len (by decide +kernel) (pa_cons (pv 3) pa_nil)) (pv 9) (nomark _)) (pss_one (ps_ret pe_bl)) pss_nil) (pss_cons (ps_for PassesOwn.never rfl (pi_range1 (by rfl) m_range (pa_cons (pv 9) pa_nil)) (pg_name (i := 11) sc_64.nd rfl (Or.inl rfl)) (pss_cons (ps_par (i := 12) (j := 13) (by rfl) sc_64.nd rfl rfl (by decide) rfl rfl (pa_cons (pe_ix ix_seq (pv 7) (pe_op op_plus (pv 8) (pv 11)) (fun _ _ => rfl)) (pa_cons (pe_ix ix_seq (pv 10) (pe_op op_plus (pv 8) (pv 11)) (fun _ _ => rfl)) pa_nil)) (by rfl)) (pss_cons (ps_asg (pe_ifExp (pt_cmpR (op_eqs hr.units) (pe_ix ix_seq (pv 4) pe_int (fun _ _ => rfl)) pe_str (nomark _)) (pe_tup (pa_cons (pv 13) (pa_cons (pv 12) pa_nil))) (pe_tup (pa_cons (pv 12) (pa_cons (pv 13) pa_nil)))) (pg_or (pg_tup rfl (pgs_cons (pg_name (i := 14) sc_64.nd rfl (Or.inl rfl)) (pgs_cons (pg_name (i := 15) sc_64.nd rfl (Or.inl rfl)) pgs_nil))) (pg_lst rfl (pgs_cons (pg_name (i := 14) sc_64.nd rfl (Or.inl rfl)) (pgs_cons (pg_name (i := 15) sc_64.nd rfl (Or.inl rfl)) pgs_nil))))) (pss_one (ps_if (PW.pt (pw_or (pt_cmpR (op_nes hr.units) (pe_df D__law_f_and (hr.mono (by decide)) (by rfl) (pa_cons (pv 14) (pa_cons (pe_ix ix_seq (pv 3) (pv 11) (fun _ _ => rfl)) pa_nil))) (pv 14) (nomark _)) (pw_or1 (pt_cmpR (op_nes hr.units) (pe_df D__law_f_and (hr.mono (by decide)) (by rfl) (pa_cons (pe_ix ix_seq (pv 3) (pv 11) (fun _ _ => rfl)) (pa_cons (pv 15) pa_nil))) (pe_ix ix_seq (pv 3) (pv 11) (fun _ _ => rfl)) (nomark _))))) (pss_one (ps_ret pe_bl)) pss_nil))))) (pss_one (ps_ret pe_bl))))))))), (rs_seq (rs_for [false, true, true, false, false, false, false, false, false, false, false, false, false, false, false, false] (ri_lt (re_sl (re_var 1) ro_none (ro_some (re_var 2)))) (rgo_name 4) (rs_set 0 [true, false, false, false, true, false, false, false, false, false, false, false, false, false, false, false] (re_call (ra_cons (re_var 0) (ra_cons (re_var 4) ra_nil))))) (rs_seq (rs_asg [true, false, false, false, false, false, false, false, false, false, false, false, false, false, false, false] (re_var 0) (rgo_seq (rgos_cons (rgo_name 5) (rgos_cons (rgo_name 6) (rgos_cons (rgo_name 7) rgos_nil))))) (rs_seq (rs_set 4 [false, true, true, false, false, false, false, false, false, false, false, false, false, false, false, false] (re_op opd_ix (re_var 1) (re_var 2))) (rs_seq (rs_asg [false, false, false, false, true, false, true, false, false, false, false, false, false, false, false, false] (re_if (rt_test (re_op opd_eq (re_op opd_ix (re_var 4) (re_int 0)) (re_str "write"))) (re_tup (ra_cons (re_op opd_ix (re_var 4) (re_int 1)) (ra_cons (re_int 1) ra_nil))) (re_tup (ra_cons (re_op opd_times (re_op opd_ix (re_var 4) (re_int 1)) (re_var 6)) (ra_cons (re_var 6) ra_nil)))) (rgo_seq (rgos_cons (rgo_name 8) (rgos_cons (rgo_name 9) rgos_nil)))) (rs_seq (rs_set 10 [true, false, false, false, true, false, false, false, false, false, false, false, false, false, false, false] (re_op opd_ix (re_call (ra_cons (re_var 0) (ra_cons (re_var 4) ra_nil))) (re_int 2))) (rs_seq (rs_if [false, false, false, true, false, false, false, false, false, true, false, false, false, false, false, false] (rt_test (re_op opd_ne (re_cb cbd_len (ra_cons (re_var 3) ra_nil)) (re_var 9))) (rs_ret [false, false, false, false, false, false, false, false, false, false, false, false, false, false, false, false] (re_bl false)) rs_next) (rs_seq (rs_forR [false, false, false, false, false, false, false, false, false, true, false, false, false, false, false, false] (ri0_rng1 (ra_cons (re_var 9) ra_nil)) (rgo_name 11) (rs_seq (rs_par 12 13 [false, false, false, false, false, false, false, true, true, false, true, true, false, false, false, false] (ra_cons (re_op opd_ix (re_var 7) (re_op opd_plus (re_var 8) (re_var 11))) (ra_cons (re_op opd_ix (re_var 10) (re_op opd_plus (re_var 8) (re_var 11))) ra_nil))) (rs_seq (rs_asg [false, false, false, false, true, false, false, false, false, false, false, false, true, true, false, false] (re_if (rt_test (re_op opd_eq (re_op opd_ix (re_var 4) (re_int 0)) (re_str "write"))) (re_tup (ra_cons (re_var 13) (ra_cons (re_var 12) ra_nil))) (re_tup (ra_cons (re_var 12) (ra_cons (re_var 13) ra_nil)))) (rgo_seq (rgos_cons (rgo_name 14) (rgos_cons (rgo_name 15) rgos_nil)))) (rs_if [false, false, false, true, false, false, false, false, false, false, false, true, false, false, true, true] (rt_or (rt_test (re_op opd_ne (re_call (ra_cons (re_var 14) (ra_cons (re_op opd_ix (re_var 3) (re_var 11)) ra_nil))) (re_var 14))) (rt_test (re_op opd_ne (re_call (ra_cons (re_op opd_ix (re_var 3) (re_var 11)) (ra_cons (re_var 15) ra_nil))) (re_op opd_ix (re_var 3) (re_var 11))))) (rs_ret [false, false, false, false, false, false, false, false, false, false, false, false, false, false, false, false] (re_bl false)) rs_next)))) (rs_ret [false, false, false, false, false, false, false, false, false, false, false, false, false, false, false, false] (re_bl true)))))))))⟩) (fun _ _ _ _ _ h => h)
/-- _law_g_drawn_image -/
def b_65 : DS := (dSeq (dSet 4 [true, true, false, true, false, false] (dLc (dRng1 (dCons (dCall 2 fDraw (dCons (dVar 0) (dCons (dC (.int 7)) dNil))) dNil)) (dgName 3) dYes (dCall 2 fDraw (dCons (dVar 0) (dCons (dOp dPlus (dCall 1 f_58 (dCons (dVar 1) dNil)) (dC (.int 1))) dNil))) [3])) (dSeq (dSet 5 [false, false, true, false, true, false] (dLst (dCons (dVar 2) (dCons (dCB dLen (dCons (dVar 4) dNil)) (dCons (dC (.int 0)) dNil))))) (dRet [false, true, false, false, true, true] (dOp dPlus (dOp dPlus (dVar 5) (dCall 2 f_55 (dCons (dVar 1) (dCons (dOp dPlus (dVar 5) (dVar 4)) dNil)))) (dVar 4)))))
def f_65 : DF := fun ds n q => b_65 (endD q) (startD ["stream", "width", "version", "k", "body", "head"] ds) n
theorem sc_65 : FnScope ["stream", "width", "version", "k", "body", "head"] ["stream", "width", "version"] (defScope (top 65)) := ⟨rfl, rfl, rfl, by decide, rfl, by decide +kernel, by decide +kernel⟩
theorem ok_65 {f : Addr} {fd : FuncData} (F : Fun K "_law_g_drawn_image" "_law_g_drawn_image" (top 65) f fd) (D__law_draw : Df P w K mg base "_law_draw" 1 ["stream", "many"] (spD 2 fDraw)) (D__law_f_ones : Df P w K mg base "_law_f_ones" 1 ["width"] (spD 1 f_58)) (D__law_f_sums : Df P w K mg base "_law_f_sums" 1 ["width", "words"] (spD 2 f_55))  (m_len : mg "len" = none) (m_range : mg "range" = none) : FnOk P w K mg base CX0 2 f fd ["stream", "width", "version"] (spD 3 f_65) :=
  fn_data (k := 1) (fb := b_65) F sc_65 rfl (fun cdv A outer s0 H E hr => ⟨_, (pss_cons (ps_setLc (i := 4) (own := [("k", 3)]) (g := (gName 3)) (tt := tYes) (te := (tCall (spD 2 fDraw) [] E0 (tCons (tVar 0) (tCons (tOp (rPlus K) (tCall (spD 1 f_58) [] E0 (tCons (tVar 1) tNil)) (tC (.int 1))) tNil)))) rfl sc_65.nd rfl rfl (sw_true rfl rfl rfl (by decide +kernel)) (pi_range1 (by rfl) m_range (pa_cons (pe_df D__law_draw (hr.mono (by decide)) (by rfl) (pa_cons (pv 0) (pa_cons pe_int pa_nil))) pa_nil)) (blkOk_by (own := [("k", 3)]) (N := ["stream", "width", "version", "k", "body", "head"]) (sc := defScope (top 65)) (by decide +kernel)) (fun _ _ _ _ _ => (pg_name (i := 3) sc_65.nd rfl (Or.inl rfl))) (fun _ _ _ _ _ => pts_nil) (fun _ _ _ _ _ => (pe_df D__law_draw (hr.mono (by decide)) (by rfl) (pa_cons (pv 0) (pa_cons (pe_op op_plus (pe_df D__law_f_ones (hr.mono (by decide)) (by rfl) (pa_cons (pv 1) pa_nil)) pe_int) pa_nil))))) (pss_cons (ps_set (i := 5) sc_65.nd rfl (Or.inl rfl) (pe_lst (pa_cons (pv 2) (pa_cons (pe_callB cr_len (by rfl) m_len (by decide +kernel) (pa_cons (pv 4) pa_nil)) (pa_cons pe_int pa_nil))))) (pss_one (ps_ret (pe_op op_plus (pe_op op_plus (pv 5) (pe_df D__law_f_sums (hr.mono (by decide)) (by rfl) (pa_cons (pv 1) (pa_cons (pe_op op_plus (pv 5) (pv 4)) pa_nil)))) (pv 4)))))), (rs_seq (rs_set 4 [true, true, false, true, false, false] (re_lc (vs := [3]) (ri_rng1 (ra_cons (re_call (ra_cons (re_var 0) (ra_cons (re_int 7) ra_nil))) ra_nil)) (rg_name 3 (by decide)) rt_yes (re_call (ra_cons (re_var 0) (ra_cons (re_op opd_plus (re_call (ra_cons (re_var 1) ra_nil)) (re_int 1)) ra_nil))))) (rs_seq (rs_set 5 [false, false, true, false, true, false] (re_lst (ra_cons (re_var 2) (ra_cons (re_cb cbd_len (ra_cons (re_var 4) ra_nil)) (ra_cons (re_int 0) ra_nil))))) (rs_ret [false, true, false, false, true, true] (re_op opd_plus (re_op opd_plus (re_var 5) (re_call (ra_cons (re_var 1) (ra_cons (re_op opd_plus (re_var 5) (re_var 4)) ra_nil)))) (re_var 4)))))⟩) (fun _ _ _ _ _ h => h)
/-- _law_g_cells -/
def b_66 : DS := (dSeq (dSet 2 [true, false, false] (dOp (dI CDiv fun i j => .int (i / j)) (dCB dLen (dCons (dOp dIx (dOp dIx (dVar 0) (dC (.int 1))) (dC (.int 2))) dNil)) (dOp dIx (dVar 0) (dC (.int 0))))) (dRet [true, true, true] (dSl (dOp dIx (dOp dIx (dVar 0) (dC (.int 1))) (dC (.int 2))) (dPart (dOp dTimes (dVar 1) (dVar 2))) (dPart (dOp dPlus (dOp dTimes (dVar 1) (dVar 2)) (dVar 2))))))
def f_66 : DF := fun ds n q => b_66 (endD q) (startD ["ring", "slot", "size"] ds) n
theorem sc_66 : FnScope ["ring", "slot", "size"] ["ring", "slot"] (defScope (top 66)) := ⟨rfl, rfl, rfl, by decide, rfl, by decide +kernel, by decide +kernel⟩
theorem ok_66 {f : Addr} {fd : FuncData} (F : Fun K "_law_g_cells" "_law_g_cells" (top 66) f fd)   (m_len : mg "len" = none) : FnOk P w K mg base CX0 1 f fd ["ring", "slot"] (spD 2 f_66) :=
  fn_data (k := 0) (fb := b_66) F sc_66 rfl (fun cdv A outer s0 H E hr => ⟨_, (pss_cons (ps_set (i := 2) sc_66.nd rfl (Or.inl rfl) (pe_op op_fdiv (pe_callB cr_len (by rfl) m_len (by decide +kernel) (pa_cons (pe_ix ix_seq (pe_ix ix_seq (pv 0) pe_int (fun _ _ => rfl)) pe_int (fun _ _ => rfl)) pa_nil)) (pe_ix ix_seq (pv 0) pe_int (fun _ _ => rfl)))) (pss_one (ps_ret (pe_slice sl_all (pe_ix ix_seq (pe_ix ix_seq (pv 0) pe_int (fun _ _ => rfl)) pe_int (fun _ _ => rfl)) (po_some (pe_op op_times (pv 1) (pv 2))) (po_some (pe_op op_plus (pe_op op_times (pv 1) (pv 2)) (pv 2))))))), (rs_seq (rs_set 2 [true, false, false] (re_op opd_i (re_cb cbd_len (ra_cons (re_op opd_ix (re_op opd_ix (re_var 0) (re_int 1)) (re_int 2)) ra_nil)) (re_op opd_ix (re_var 0) (re_int 0)))) (rs_ret [true, true, true] (re_sl (re_op opd_ix (re_op opd_ix (re_var 0) (re_int 1)) (re_int 2)) (ro_some (re_op opd_times (re_var 1) (re_var 2))) (ro_some (re_op opd_plus (re_op opd_times (re_var 1) (re_var 2)) (re_var 2))))))⟩) (fun _ _ _ _ _ h => h)
/-- _law_g_image -/
def b_67 : DS := (dSeq (dSet 2 [true, true, false] (dCall 2 f_66 (dCons (dVar 0) (dCons (dVar 1) dNil)))) (dRet [true, false, true] (dCall 2 f_57 (dCons (dTup (dCons (dOp dIx (dOp dIx (dVar 0) (dC (.int 1))) (dC (.int 0))) (dCons (dOp dIx (dOp dIx (dVar 0) (dC (.int 1))) (dC (.int 1))) (dCons (dOp dPlus (dVar 2) (dVar 2)) dNil)))) (dCons (dC (.int 0)) dNil)))))
def f_67 : DF := fun ds n q => b_67 (endD q) (startD ["ring", "slot", "cells"] ds) n
theorem sc_67 : FnScope ["ring", "slot", "cells"] ["ring", "slot"] (defScope (top 67)) := ⟨rfl, rfl, rfl, by decide, rfl, by decide +kernel, by decide +kernel⟩
theorem ok_67 {f : Addr} {fd : FuncData} (F : Fun K "_law_g_image" "_law_g_image" (top 67) f fd) (D__law_g_cells : Df P w K mg base "_law_g_cells" 1 ["ring", "slot"] (spD 2 f_66)) (D__law_f_image : Df P w K mg base "_law_f_image" 2 ["store", "slot"] (spD 2 f_57))   : FnOk P w K mg base CX0 3 f fd ["ring", "slot"] (spD 2 f_67) :=
  fn_data (k := 2) (fb := b_67) F sc_67 rfl (fun cdv A outer s0 H E hr => ⟨_, (pss_cons (ps_set (i := 2) sc_67.nd rfl (Or.inl rfl) (pe_df D__law_g_cells (hr.mono (by decide)) (by rfl) (pa_cons (pv 0) (pa_cons (pv 1) pa_nil)))) (pss_one (ps_ret (pe_df D__law_f_image (hr.mono (by decide)) (by rfl) (pa_cons (pe_tup (pa_cons (pe_ix ix_seq (pe_ix ix_seq (pv 0) pe_int (fun _ _ => rfl)) pe_int (fun _ _ => rfl)) (pa_cons (pe_ix ix_seq (pe_ix ix_seq (pv 0) pe_int (fun _ _ => rfl)) pe_int (fun _ _ => rfl)) (pa_cons (pe_op op_plus (pv 2) (pv 2)) pa_nil)))) (pa_cons pe_int pa_nil)))))), (rs_seq (rs_set 2 [true, true, false] (re_call (ra_cons (re_var 0) (ra_cons (re_var 1) ra_nil)))) (rs_ret [true, false, true] (re_call (ra_cons (re_tup (ra_cons (re_op opd_ix (re_op opd_ix (re_var 0) (re_int 1)) (re_int 0)) (ra_cons (re_op opd_ix (re_op opd_ix (re_var 0) (re_int 1)) (re_int 1)) (ra_cons (re_op opd_plus (re_var 2) (re_var 2)) ra_nil)))) (ra_cons (re_int 0) ra_nil)))))⟩) (fun _ _ _ _ _ h => h)
/-- _law_g_fresh -/
def b_68 : DS := (dSeq (dSet 5 [true, true, true, false, true, false] (dCall 4 f_59 (dCons (dVar 0) (dCons (dVar 1) (dCons (dVar 2) (dCons (dVar 4) dNil)))))) (dRet [true, true, true, true, false, true] (dTup (dCons (dVar 3) (dCons (dTup (dCons (dVar 0) (dCons (dVar 1) (dCons (dOp dPlus (dOp dIx (dVar 5) (dC (.int 2))) (dOp dTimes (dLst (dCons (dCall 1 f_58 (dCons (dVar 0) dNil)) dNil)) (dOp dTimes (dOp dTimes (dVar 1) (dVar 2)) (dOp (dI0 fun i j => .int (i - j)) (dVar 3) (dC (.int 2)))))) dNil)))) dNil)))))
def f_68 : DF := fun ds n q => b_68 (endD q) (startD ["width", "block", "blocks", "count", "image", "store"] ds) n
theorem sc_68 : FnScope ["width", "block", "blocks", "count", "image", "store"] ["width", "block", "blocks", "count", "image"] (defScope (top 68)) := ⟨rfl, rfl, rfl, by decide, rfl, by decide +kernel, by decide +kernel⟩
theorem ok_68 {f : Addr} {fd : FuncData} (F : Fun K "_law_g_fresh" "_law_g_fresh" (top 68) f fd) (D__law_f_fresh : Df P w K mg base "_law_f_fresh" 2 ["width", "block", "blocks", "image"] (spD 4 f_59)) (D__law_f_ones : Df P w K mg base "_law_f_ones" 1 ["width"] (spD 1 f_58))   : FnOk P w K mg base CX0 3 f fd ["width", "block", "blocks", "count", "image"] (spD 5 f_68) :=
  fn_data (k := 2) (fb := b_68) F sc_68 rfl (fun cdv A outer s0 H E hr => ⟨_, (pss_cons (ps_set (i := 5) sc_68.nd rfl (Or.inl rfl) (pe_df D__law_f_fresh (hr.mono (by decide)) (by rfl) (pa_cons (pv 0) (pa_cons (pv 1) (pa_cons (pv 2) (pa_cons (pv 4) pa_nil)))))) (pss_one (ps_ret (pe_tup (pa_cons (pv 3) (pa_cons (pe_tup (pa_cons (pv 0) (pa_cons (pv 1) (pa_cons (pe_op op_plus (pe_ix ix_seq (pv 5) pe_int (fun _ _ => rfl)) (pe_op op_times (pe_lst (pa_cons (pe_df D__law_f_ones (hr.mono (by decide)) (by rfl) (pa_cons (pv 0) pa_nil)) pa_nil)) (pe_op op_times (pe_op op_times (pv 1) (pv 2)) (pe_op op_sub (pv 3) pe_int)))) pa_nil)))) pa_nil)))))), (rs_seq (rs_set 5 [true, true, true, false, true, false] (re_call (ra_cons (re_var 0) (ra_cons (re_var 1) (ra_cons (re_var 2) (ra_cons (re_var 4) ra_nil)))))) (rs_ret [true, true, true, true, false, true] (re_tup (ra_cons (re_var 3) (ra_cons (re_tup (ra_cons (re_var 0) (ra_cons (re_var 1) (ra_cons (re_op opd_plus (re_op opd_ix (re_var 5) (re_int 2)) (re_op opd_times (re_lst (ra_cons (re_call (ra_cons (re_var 0) ra_nil)) ra_nil)) (re_op opd_times (re_op opd_times (re_var 1) (re_var 2)) (re_op opd_i0 (re_var 3) (re_int 2))))) ra_nil)))) ra_nil)))))⟩) (fun _ _ _ _ _ h => h)
/-- _law_g_whys -/
def b_69 : DS := (dSeq (dAsg [true, false, false, false, false, false, false, false] (dTup (dCons (dCall 1 f_56 (dCons (dOp dIx (dOp dIx (dVar 0) (dC (.int 1))) (dC (.int 0))) dNil)) (dCons (dC .non) (dCons (dLst dNil) dNil)))) (dgSeq 3 (dgCons (dgName 1) (dgCons (dgName 2) (dgCons (dgName 3) dgNil))))) (dSeq (dForR [true, false, false, false, false, false, false, false] (dRng1 (dCons (dOp dIx (dVar 0) (dC (.int 0))) dNil)) (dgName 4) (dSeq (dPar 5 6 [true, false, false, false, true, false, false, false] (dCons (dCall 2 f_66 (dCons (dVar 0) (dCons (dVar 4) dNil))) (dCons (dCall 2 f_67 (dCons (dVar 0) (dCons (dVar 4) dNil))) dNil))) (dSeq (dSet 7 [false, true, false, false, false, true, true, false] (dIf (dOr (dTest (dOp dNe (dOp dIx (dVar 5) (dC (.int 0))) (dVar 1))) (dTest (dOp dNe (dOp dIx (dVar 5) (dUn (dU fun i => .int (-i)) (dC (.int 1)))) (dVar 1)))) (dC (.str "marks")) (dIf (dTest (dIsN (dVar 6))) (dC (.str "image")) (dIf (dAnd (dTest (dOp dEq (dOp dIx (dVar 5) (dC (.int 1))) (dC (.int 0)))) (dTest (dOp dNe (dOp dIx (dVar 5) (dC (.int 2))) (dC (.int 0))))) (dC (.str "failed")) (dC (.str "older")))))) (dSeq (dApp 3 [false, false, false, false, false, false, false, true] (dVar 7)) (dSet 2 [true, false, true, false, true, false, true, true] (dIf (dAnd (dTest (dOp dEq (dVar 7) (dC (.str "older")))) (dOr (dTest (dIsN (dVar 2))) (dTest (dOp (dI0 fun i j => .bl (decide (j < i))) (dOp dIx (dVar 6) (dC (.int 0))) (dOp dIx (dCall 2 f_67 (dCons (dVar 0) (dCons (dVar 2) dNil))) (dC (.int 0))))))) (dVar 4) (dVar 2))))))) (dRet [false, false, true, true, true, false, false, true] (dLc (dEnum (dCons (dVar 3) dNil)) (dgTup 2 (dgCons (dgName 4) (dgCons (dgName 7) dgNil))) dYes (dIf (dTest (dOp dEq (dVar 4) (dVar 2))) (dC (.str "run")) (dVar 7)) [4, 7]))))
def f_69 : DF := fun ds n q => b_69 (endD q) (startD ["ring", "mark", "best", "found", "slot", "cells", "image", "word"] ds) n
theorem sc_69 : FnScope ["ring", "mark", "best", "found", "slot", "cells", "image", "word"] ["ring"] (defScope (top 69)) := ⟨rfl, rfl, rfl, by decide, rfl, by decide +kernel, by decide +kernel⟩
theorem ok_69 {f : Addr} {fd : FuncData} (F : Fun K "_law_g_whys" "_law_g_whys" (top 69) f fd) (D__law_f_mark : Df P w K mg base "_law_f_mark" 1 ["width"] (spD 1 f_56)) (D__law_g_image : Df P w K mg base "_law_g_image" 3 ["ring", "slot"] (spD 2 f_67)) (D__law_g_cells : Df P w K mg base "_law_g_cells" 1 ["ring", "slot"] (spD 2 f_66))  (m_enumerate : mg "enumerate" = none) (m_range : mg "range" = none) : FnOk P w K mg base CX0 4 f fd ["ring"] (spD 1 f_69) :=
  fn_data (k := 3) (fb := b_69) F sc_69 rfl (fun cdv A outer s0 H E hr => ⟨_, (pss_cons (ps_asg (pe_tup (pa_cons (pe_df D__law_f_mark (hr.mono (by decide)) (by rfl) (pa_cons (pe_ix ix_seq (pe_ix ix_seq (pv 0) pe_int (fun _ _ => rfl)) pe_int (fun _ _ => rfl)) pa_nil)) (pa_cons pe_non (pa_cons (pe_lst pa_nil) pa_nil)))) (pg_or (pg_tup rfl (pgs_cons (pg_name (i := 1) sc_69.nd rfl (Or.inl rfl)) (pgs_cons (pg_name (i := 2) sc_69.nd rfl (Or.inr rfl)) (pgs_cons (pg_name (i := 3) sc_69.nd rfl (Or.inl rfl)) pgs_nil)))) (pg_lst rfl (pgs_cons (pg_name (i := 1) sc_69.nd rfl (Or.inl rfl)) (pgs_cons (pg_name (i := 2) sc_69.nd rfl (Or.inr rfl)) (pgs_cons (pg_name (i := 3) sc_69.nd rfl (Or.inl rfl)) pgs_nil)))))) (pss_cons (ps_for PassesOwn.never rfl (pi_range1 (by rfl) m_range (pa_cons (pe_ix ix_seq (pv 0) pe_int (fun _ _ => rfl)) pa_nil)) (pg_name (i := 4) sc_69.nd rfl (Or.inl rfl)) (pss_cons (ps_par (i := 5) (j := 6) (by rfl) sc_69.nd rfl rfl (by decide) rfl rfl (pa_cons (pe_df D__law_g_cells (hr.mono (by decide)) (by rfl) (pa_cons (pv 0) (pa_cons (pv 4) pa_nil))) (pa_cons (pe_df D__law_g_image (hr.mono (by decide)) (by rfl) (pa_cons (pv 0) (pa_cons (pv 4) pa_nil))) pa_nil)) (by rfl)) (pss_cons (ps_set (i := 7) sc_69.nd rfl (Or.inl rfl) (pe_ifExp (PW.pt (pw_or (pt_cmpR (op_nes hr.units) (pe_ix ix_seq (pv 5) pe_int (fun _ _ => rfl)) (pv 1) (nomark _)) (pw_or1 (pt_cmpR (op_nes hr.units) (pe_ix ix_seq (pv 5) (pe_un un_neg pe_int) (fun _ _ => rfl)) (pv 1) (nomark _))))) pe_str (pe_ifExp (pt_cmp (pc_isN (pv 6)) rfl) pe_str (pe_ifExp (PW.pt (pw_and (pt_cmpR (op_eqs hr.units) (pe_ix ix_seq (pv 5) pe_int (fun _ _ => rfl)) pe_int (nomark _)) (pw_and1 (pt_cmpR (op_nes hr.units) (pe_ix ix_seq (pv 5) pe_int (fun _ _ => rfl)) pe_int (nomark _))))) pe_str pe_str)))) (pss_cons (ps_expr (pe_bm PySem.F.plainAttrs_list PySem.F.slot_list_append PySem.F.type_list_append mt_append (pv 3) (pa_cons (pv 7) pa_nil))) (pss_one (ps_set (i := 2) sc_69.nd rfl (Or.inr rfl) (pe_ifExp (PW.pt (pw_and (pt_cmpR (op_eqs hr.units) (pv 7) pe_str (nomark _)) (pw_and1 (PW.pt (pw_or (pt_cmp (pc_isN (pv 2)) rfl) (pw_or1 (pt_cmpR op_gt (pe_ix ix_seq (pv 6) pe_int (fun _ _ => rfl)) (pe_ix ix_seq (pe_df D__law_g_image (hr.mono (by decide)) (by rfl) (pa_cons (pv 0) (pa_cons (pv 2) pa_nil))) pe_int (fun _ _ => rfl)) (nomark _)))))))) (pv 4) (pv 2)))))))) (pss_one (ps_ret (pe_lc (own := [("slot", 4), ("word", 7)]) (g := (gTup K 2 (gCons (gName 4) (gCons (gName 7) gNil)))) (tt := tYes) (te := (tIf (tTest (tOp (rEqs K) (tVar 4) (tVar 2))) (tC (.str "run")) (tVar 7))) rfl sc_69.nd (pi_enum (by rfl) m_enumerate (pa_cons (pv 3) pa_nil)) (blkOk_by (own := [("slot", 4), ("word", 7)]) (N := ["ring", "mark", "best", "found", "slot", "cells", "image", "word"]) (sc := defScope (top 69)) (by decide +kernel)) (fun _ _ _ _ _ => (pg_tup rfl (pgs_cons (pg_name (i := 4) sc_69.nd rfl (Or.inl rfl)) (pgs_cons (pg_name (i := 7) sc_69.nd rfl (Or.inl rfl)) pgs_nil)))) (fun _ _ _ _ _ => pts_nil) (fun _ _ _ _ _ => (pe_ifExp (pt_cmpR (op_eqs hr.units) (pv 4) (pv 2) (nomark _)) pe_str (pv 7)))))))), (rs_seq (rs_asg [true, false, false, false, false, false, false, false] (re_tup (ra_cons (re_call (ra_cons (re_op opd_ix (re_op opd_ix (re_var 0) (re_int 1)) (re_int 0)) ra_nil)) (ra_cons re_non (ra_cons (re_lst ra_nil) ra_nil)))) (rgo_seq (rgos_cons (rgo_name 1) (rgos_cons (rgo_name 2) (rgos_cons (rgo_name 3) rgos_nil))))) (rs_seq (rs_forR [true, false, false, false, false, false, false, false] (ri0_rng1 (ra_cons (re_op opd_ix (re_var 0) (re_int 0)) ra_nil)) (rgo_name 4) (rs_seq (rs_par 5 6 [true, false, false, false, true, false, false, false] (ra_cons (re_call (ra_cons (re_var 0) (ra_cons (re_var 4) ra_nil))) (ra_cons (re_call (ra_cons (re_var 0) (ra_cons (re_var 4) ra_nil))) ra_nil))) (rs_seq (rs_set 7 [false, true, false, false, false, true, true, false] (re_if (rt_or (rt_test (re_op opd_ne (re_op opd_ix (re_var 5) (re_int 0)) (re_var 1))) (rt_test (re_op opd_ne (re_op opd_ix (re_var 5) (re_un und_i (re_int 1))) (re_var 1)))) (re_str "marks") (re_if (rt_b (re_isN (re_var 6))) (re_str "image") (re_if (rt_and (rt_test (re_op opd_eq (re_op opd_ix (re_var 5) (re_int 1)) (re_int 0))) (rt_test (re_op opd_ne (re_op opd_ix (re_var 5) (re_int 2)) (re_int 0)))) (re_str "failed") (re_str "older"))))) (rs_seq (rs_app 3 [false, false, false, false, false, false, false, true] (re_var 7)) (rs_set 2 [true, false, true, false, true, false, true, true] (re_if (rt_and (rt_test (re_op opd_eq (re_var 7) (re_str "older"))) (rt_or (rt_b (re_isN (re_var 2))) (rt_test (re_op opd_b0 (re_op opd_ix (re_var 6) (re_int 0)) (re_op opd_ix (re_call (ra_cons (re_var 0) (ra_cons (re_var 2) ra_nil))) (re_int 0)))))) (re_var 4) (re_var 2))))))) (rs_ret [false, false, true, true, true, false, false, true] (re_lc (vs := [4, 7]) (ri_enum (ra_cons (re_var 3) ra_nil)) (rg_tup (rgs_cons (rg_name 4 (by decide)) (rgs_cons (rg_name 7 (by decide)) rgs_nil))) rt_yes (re_if (rt_test (re_op opd_eq (re_var 4) (re_var 2))) (re_str "run") (re_var 7))))))⟩) (fun _ _ _ _ _ h => h)
/-- _law_g_run -/
def b_70 : DS := (dSeq (dSet 1 [true, false] (dCall 1 f_69 (dCons (dVar 0) dNil))) (dRet [false, true] (dIf (dTest (dOp dIn (dC (.str "run")) (dVar 1))) (dIndex (dVar 1) (dCons (dC (.str "run")) dNil)) (dC .non))))
def f_70 : DF := fun ds n q => b_70 (endD q) (startD ["ring", "whys"] ds) n
theorem sc_70 : FnScope ["ring", "whys"] ["ring"] (defScope (top 70)) := ⟨rfl, rfl, rfl, by decide, rfl, by decide +kernel, by decide +kernel⟩
theorem ok_70 {f : Addr} {fd : FuncData} (F : Fun K "_law_g_run" "_law_g_run" (top 70) f fd) (D__law_g_whys : Df P w K mg base "_law_g_whys" 4 ["ring"] (spD 1 f_69))   : FnOk P w K mg base CX0 5 f fd ["ring"] (spD 1 f_70) :=
  fn_data (k := 4) (fb := b_70) F sc_70 rfl (fun cdv A outer s0 H E hr => ⟨_, (pss_cons (ps_set (i := 1) sc_70.nd rfl (Or.inl rfl) (pe_df D__law_g_whys (hr.mono (by decide)) (by rfl) (pa_cons (pv 0) pa_nil))) (pss_one (ps_ret (pe_ifExp (pt_cmpR op_in_seq pe_str (pv 1) (by rfl)) (pe_bm PySem.F.plainAttrs_list PySem.F.slot_list_index PySem.F.type_list_index mt_index (pv 1) (pa_cons pe_str pa_nil)) pe_non)))), (rs_seq (rs_set 1 [true, false] (re_call (ra_cons (re_var 0) ra_nil))) (rs_ret [false, true] (re_if (rt_test (re_op opd_in (re_str "run") (re_var 1))) (re_index (re_var 1) (ra_cons (re_str "run") ra_nil)) re_non)))⟩) (fun _ _ _ _ _ h => h)
/-- _law_g_ops -/
def b_71 : DS := (dSeq (dAsg [true, false, false, false, false, false, false, false, false, false, false, false, false, false, false, false, false, false, false] (dTup (dCons (dOp (dI CDiv fun i j => .int (i / j)) (dCB dLen (dCons (dOp dIx (dOp dIx (dVar 0) (dC (.int 1))) (dC (.int 2))) dNil)) (dOp dIx (dVar 0) (dC (.int 0)))) (dCons (dOp dIx (dOp dIx (dVar 0) (dC (.int 1))) (dC (.int 1))) dNil))) (dgSeq 2 (dgCons (dgName 3) (dgCons (dgName 4) dgNil)))) (dSeq (dSet 5 [true, false, false, false, false, false, false, false, false, false, false, false, false, false, false, false, false, false, false] (dCall 1 f_70 (dCons (dVar 0) dNil))) (dSeq (dIfS [false, false, true, false, false, false, false, false, false, false, false, false, false, false, false, false, false, false, false] (dTest (dOp dEq (dOp dIx (dVar 2) (dC (.int 0))) (dC (.str "start")))) (dSeq (dIfS [false, false, false, false, false, true, false, false, false, false, false, false, false, false, false, false, false, false, false] (dTest (dIsN (dVar 5))) (dRet [false, false, false, false, false, false, false, false, false, false, false, false, false, false, false, false, false, false, false] (dTup (dCons (dLst dNil) (dCons (dTup (dCons (dC (.str "none")) dNil)) dNil)))) dNext) (dSeq (dSet 6 [true, false, false, false, false, true, false, false, false, false, false, false, false, false, false, false, false, false, false] (dCall 2 f_66 (dCons (dVar 0) (dCons (dVar 5) dNil)))) (dRet [true, false, false, true, false, true, true, false, false, false, false, false, false, false, false, false, false, false, false] (dTup (dCons (dIf (dOr (dTest (dOp dEq (dOp dIx (dVar 6) (dC (.int 1))) (dC (.int 0)))) (dTest (dOp dEq (dOp dIx (dVar 6) (dC (.int 2))) (dC (.int 0))))) (dLst dNil) (dLst (dCons (dTup (dCons (dC (.str "write")) (dCons (dOp dPlus (dOp dTimes (dVar 5) (dVar 3)) (dC (.int 1))) (dCons (dC (.int 0)) dNil)))) dNil))) (dCons (dTup (dCons (dC (.str "run")) (dCons (dVar 5) (dCons (dOp dIx (dCall 2 f_67 (dCons (dVar 0) (dCons (dVar 5) dNil))) (dC (.int 0))) dNil)))) dNil)))))) dNext) (dSeq (dIfS [true, true, false, false, false, false, false, false, false, false, false, false, false, false, false, false, false, false, false] (dOr (dTest (dIsN (dVar 1))) (dTest (dIsN (dCall 2 f_67 (dCons (dVar 0) (dCons (dVar 1) dNil)))))) (dRet [false, false, false, false, false, false, false, false, false, false, false, false, false, false, false, false, false, false, false] (dTup (dCons (dC (.str "refused")) (dCons (dC (.str "not run")) dNil)))) dNext) (dSeq (dIfS [false, false, true, false, false, false, false, false, false, false, false, false, false, false, false, false, false, false, false] (dTest (dOp dEq (dOp dIx (dVar 2) (dC (.int 0))) (dC (.str "confirm")))) (dRet [false, true, false, true, false, false, false, false, false, false, false, false, false, false, false, false, false, false, false] (dTup (dCons (dLst (dCons (dTup (dCons (dC (.str "write")) (dCons (dOp dPlus (dOp dTimes (dVar 1) (dVar 3)) (dC (.int 2))) (dCons (dC (.int 0)) dNil)))) dNil)) (dCons (dTup (dCons (dC (.str "good")) (dCons (dVar 1) dNil))) dNil)))) dNext) (dSeq (dIfS [false, false, true, false, false, false, false, false, false, false, false, false, false, false, false, false, false, false, false] (dTest (dOp dEq (dOp dIx (dVar 2) (dC (.int 0))) (dC (.str "back")))) (dSeq (dSet 7 [true, false, false, false, false, false, false, false, false, false, false, false, false, false, false, false, false, false, false] (dCall 1 f_69 (dCons (dVar 0) dNil))) (dSeq (dSet 9 [true, true, false, false, false, false, false, true, true, false, false, false, false, false, false, false, false, false, false] (dLc (dRng1 (dCons (dOp dIx (dVar 0) (dC (.int 0))) dNil)) (dgName 8) (dAnd (dTest (dOp dNe (dVar 8) (dVar 1))) (dAnd (dTest (dOp dNin (dOp dIx (dVar 7) (dVar 8)) (dTup (dCons (dC (.str "marks")) (dCons (dC (.str "image")) dNil))))) (dTest (dOp dEq (dOp dIx (dCall 2 f_66 (dCons (dVar 0) (dCons (dVar 8) dNil))) (dC (.int 2))) (dC (.int 0)))))) (dVar 8) [8])) (dRet [false, true, false, true, false, false, false, false, false, true, false, false, false, false, false, false, false, false, false] (dIf (dTest (dOp dNe (dVar 9) (dLst dNil))) (dTup (dCons (dLst (dCons (dTup (dCons (dC (.str "write")) (dCons (dOp dTimes (dVar 1) (dVar 3)) (dCons (dC (.int 0)) dNil)))) dNil)) (dCons (dTup (dCons (dC (.str "back")) (dCons (dVar 1) dNil))) dNil))) (dTup (dCons (dC (.str "refused")) (dCons (dC (.str "alone")) dNil))))))) dNext) (dSeq (dSet 10 [false, false, true, false, false, false, false, false, false, false, false, false, false, false, false, false, false, false, false] (dIf (dTest (dOp dEq (dOp dIx (dOp dIx (dVar 2) (dC (.int 1))) (dC (.int 0))) (dC (.str "image")))) (dOp dIx (dOp dIx (dVar 2) (dC (.int 1))) (dC (.int 1))) (dSl (dOp dIx (dOp dIx (dVar 2) (dC (.int 1))) (dC (.int 1))) (dPart (dC (.int 5))) dNoPart))) (dSeq (dIfS [true, true, false, false, false, false, false, false, false, false, false, false, false, false, false, false, false, false, false] (dTest (dOp dNe (dOp dIx (dCall 2 f_66 (dCons (dVar 0) (dCons (dVar 1) dNil))) (dC (.int 2))) (dC (.int 0)))) (dRet [false, false, false, false, false, false, false, false, false, false, false, false, false, false, false, false, false, false, false] (dTup (dCons (dC (.str "refused")) (dCons (dC (.str "on trial")) dNil)))) dNext) (dSeq (dIfS [true, true, true, false, false, false, false, false, false, false, false, false, false, false, false, false, false, false, false] (dAnd (dTest (dOp dEq (dOp dIx (dOp dIx (dVar 2) (dC (.int 1))) (dC (.int 0))) (dC (.str "patch")))) (dTest (dOp dNe (dSl (dOp dIx (dOp dIx (dVar 2) (dC (.int 1))) (dC (.int 1))) dNoPart (dPart (dC (.int 2)))) (dCall 2 f_55 (dCons (dOp dIx (dOp dIx (dVar 0) (dC (.int 1))) (dC (.int 0))) (dCons (dCall 2 f_67 (dCons (dVar 0) (dCons (dVar 1) dNil))) dNil)))))) (dRet [false, false, false, false, false, false, false, false, false, false, false, false, false, false, false, false, false, false, false] (dTup (dCons (dC (.str "refused")) (dCons (dC (.str "not made")) dNil)))) dNext) (dSeq (dIfS [true, true, false, true, false, false, false, false, false, false, true, false, false, false, false, false, false, false, false] (dOr (dTest (dOp (dI0 fun i j => .bl (decide (i ≤ j))) (dOp dIx (dVar 10) (dC (.int 0))) (dOp dIx (dCall 2 f_67 (dCons (dVar 0) (dCons (dVar 1) dNil))) (dC (.int 0))))) (dTest (dOp (dI0 fun i j => .bl (decide (j < i))) (dCB dLen (dCons (dVar 10) dNil)) (dOp (dI0 fun i j => .int (i - j)) (dVar 3) (dC (.int 4)))))) (dRet [true, true, false, false, false, false, false, false, false, false, true, false, false, false, false, false, false, false, false] (dTup (dCons (dC (.str "refused")) (dCons (dIf (dTest (dOp (dI0 fun i j => .bl (decide (i ≤ j))) (dOp dIx (dVar 10) (dC (.int 0))) (dOp dIx (dCall 2 f_67 (dCons (dVar 0) (dCons (dVar 1) dNil))) (dC (.int 0))))) (dC (.str "old")) (dC (.str "no room"))) dNil)))) dNext) (dSeq (dPar 11 12 [true, true, false, false, false, false, false, false, false, false, false, false, false, false, false, false, false, false, false] (dCons (dIf (dTest (dOp dEq (dVar 1) (dOp (dI0 fun i j => .int (i - j)) (dOp dIx (dVar 0) (dC (.int 0))) (dC (.int 1))))) (dC (.int 0)) (dOp dPlus (dVar 1) (dC (.int 1)))) (dCons (dCall 1 f_56 (dCons (dOp dIx (dOp dIx (dVar 0) (dC (.int 1))) (dC (.int 0))) dNil)) dNil))) (dSeq (dAsg [false, false, false, true, false, false, false, false, false, false, false, true, false, false, false, false, false, false, false] (dTup (dCons (dOp dTimes (dVar 11) (dVar 3)) (dCons (dOp (dI0 fun i j => .int (i - j)) (dOp dPlus (dOp dTimes (dVar 11) (dVar 3)) (dVar 3)) (dC (.int 1))) dNil))) (dgSeq 2 (dgCons (dgName 13) (dgCons (dgName 14) dgNil)))) (dSeq (dSet 16 [false, false, false, true, true, false, false, false, false, false, false, false, false, true, true, true, false, false, false] (dOp dPlus (dLst (dCons (dTup (dCons (dC (.str "write")) (dCons (dVar 14) (dCons (dC (.int 0)) dNil)))) (dCons (dTup (dCons (dC (.str "write")) (dCons (dVar 13) (dCons (dC (.int 0)) dNil)))) dNil))) (dLc (dRng1 (dCons (dOp (dI CDiv fun i j => .int (i / j)) (dVar 3) (dVar 4)) dNil)) (dgName 15) dYes (dTup (dCons (dC (.str "erase")) (dCons (dOp dPlus (dOp (dI CDiv fun i j => .int (i / j)) (dVar 13) (dVar 4)) (dVar 15)) dNil))) [15]))) (dSeq (dSet 16 [false, false, false, false, false, false, false, false, false, false, true, false, true, true, true, false, true, true, true] (dOp dPlus (dOp dPlus (dVar 16) (dLc (dEnum (dCons (dVar 10) dNil)) (dgTup 2 (dgCons (dgName 17) (dgCons (dgName 18) dgNil))) dYes (dTup (dCons (dC (.str "write")) (dCons (dOp dPlus (dOp dPlus (dVar 13) (dC (.int 3))) (dVar 17)) (dCons (dVar 18) dNil)))) [17, 18])) (dLst (dCons (dTup (dCons (dC (.str "write")) (dCons (dVar 14) (dCons (dVar 12) dNil)))) (dCons (dTup (dCons (dC (.str "write")) (dCons (dVar 13) (dCons (dVar 12) dNil)))) dNil))))) (dRet [false, false, false, false, false, false, false, false, false, false, true, true, false, false, false, false, true, false, false] (dTup (dCons (dVar 16) (dCons (dTup (dCons (dC (.str "put")) (dCons (dVar 11) (dCons (dOp dIx (dVar 10) (dC (.int 0))) dNil)))) dNil))))))))))))))))))
def f_71 : DF := fun ds n q => b_71 (endD q) (startD ["ring", "run", "event", "size", "block", "slot", "cells", "whys", "one", "others", "words", "put", "mark", "first", "last", "k", "ops", "at", "word"] ds) n
theorem sc_71 : FnScope ["ring", "run", "event", "size", "block", "slot", "cells", "whys", "one", "others", "words", "put", "mark", "first", "last", "k", "ops", "at", "word"] ["ring", "run", "event"] (defScope (top 71)) := ⟨rfl, rfl, rfl, by decide, rfl, by decide +kernel, by decide +kernel⟩
theorem ok_71 {f : Addr} {fd : FuncData} (F : Fun K "_law_g_ops" "_law_g_ops" (top 71) f fd) (D__law_g_run : Df P w K mg base "_law_g_run" 5 ["ring"] (spD 1 f_70)) (D__law_g_cells : Df P w K mg base "_law_g_cells" 1 ["ring", "slot"] (spD 2 f_66)) (D__law_g_image : Df P w K mg base "_law_g_image" 3 ["ring", "slot"] (spD 2 f_67)) (D__law_g_whys : Df P w K mg base "_law_g_whys" 4 ["ring"] (spD 1 f_69)) (D__law_f_sums : Df P w K mg base "_law_f_sums" 1 ["width", "words"] (spD 2 f_55)) (D__law_f_mark : Df P w K mg base "_law_f_mark" 1 ["width"] (spD 1 f_56))  (m_enumerate : mg "enumerate" = none) (m_len : mg "len" = none) (m_range : mg "range" = none) : FnOk P w K mg base CX0 6 f fd ["ring", "run", "event"] (spD 3 f_71) :=
  fn_data (k := 5) (fb := b_71) F sc_71 rfl (fun cdv A outer s0 H E hr => ⟨_, (pss_cons (ps_asg (pe_tup (pa_cons (pe_op op_fdiv (pe_callB cr_len (by rfl) m_len (by decide +kernel) (pa_cons (pe_ix ix_seq (pe_ix ix_seq (pv 0) pe_int (fun _ _ => rfl)) pe_int (fun _ _ => rfl)) pa_nil)) (pe_ix ix_seq (pv 0) pe_int (fun _ _ => rfl))) (pa_cons (pe_ix ix_seq (pe_ix ix_seq (pv 0) pe_int (fun _ _ => rfl)) pe_int (fun _ _ => rfl)) pa_nil))) (pg_or (pg_tup rfl (pgs_cons (pg_name (i := 3) sc_71.nd rfl (Or.inl rfl)) (pgs_cons (pg_name (i := 4) sc_71.nd rfl (Or.inr rfl)) pgs_nil))) (pg_lst rfl (pgs_cons (pg_name (i := 3) sc_71.nd rfl (Or.inl rfl)) (pgs_cons (pg_name (i := 4) sc_71.nd rfl (Or.inr rfl)) pgs_nil))))) (pss_cons (ps_set (i := 5) sc_71.nd rfl (Or.inl rfl) (pe_df D__law_g_run (hr.mono (by decide)) (by rfl) (pa_cons (pv 0) pa_nil))) (pss_cons (ps_if (pt_cmpR (op_eqs hr.units) (pe_ix ix_seq (pv 2) pe_int (fun _ _ => rfl)) pe_str (nomark _)) (pss_cons (ps_if (pt_cmp (pc_isN (pv 5)) rfl) (pss_one (ps_ret (pe_tup (pa_cons (pe_lst pa_nil) (pa_cons (pe_tup (pa_cons pe_str pa_nil)) pa_nil))))) pss_nil) (pss_cons (ps_set (i := 6) sc_71.nd rfl (Or.inl rfl) (pe_df D__law_g_cells (hr.mono (by decide)) (by rfl) (pa_cons (pv 0) (pa_cons (pv 5) pa_nil)))) (pss_one (ps_ret (pe_tup (pa_cons (pe_ifExp (PW.pt (pw_or (pt_cmpR (op_eqs hr.units) (pe_ix ix_seq (pv 6) pe_int (fun _ _ => rfl)) pe_int (nomark _)) (pw_or1 (pt_cmpR (op_eqs hr.units) (pe_ix ix_seq (pv 6) pe_int (fun _ _ => rfl)) pe_int (nomark _))))) (pe_lst pa_nil) (pe_lst (pa_cons (pe_tup (pa_cons pe_str (pa_cons (pe_op op_plus (pe_op op_times (pv 5) (pv 3)) pe_int) (pa_cons pe_int pa_nil)))) pa_nil))) (pa_cons (pe_tup (pa_cons pe_str (pa_cons (pv 5) (pa_cons (pe_ix ix_seq (pe_df D__law_g_image (hr.mono (by decide)) (by rfl) (pa_cons (pv 0) (pa_cons (pv 5) pa_nil))) pe_int (fun _ _ => rfl)) pa_nil)))) pa_nil))))))) pss_nil) (pss_cons (ps_if (PW.pt (pw_or (pt_cmp (pc_isN (pv 1)) rfl) (pw_or1 (pt_cmp (pc_isN (pe_df D__law_g_image (hr.mono (by decide)) (by rfl) (pa_cons (pv 0) (pa_cons (pv 1) pa_nil)))) rfl)))) (pss_one (ps_ret (pe_tup (pa_cons pe_str (pa_cons pe_str pa_nil))))) pss_nil) (pss_cons (ps_if (pt_cmpR (op_eqs hr.units) (pe_ix ix_seq (pv 2) pe_int (fun _ _ => rfl)) pe_str (nomark _)) (pss_one (ps_ret (pe_tup (pa_cons (pe_lst (pa_cons (pe_tup (pa_cons pe_str (pa_cons (pe_op op_plus (pe_op op_times (pv 1) (pv 3)) pe_int) (pa_cons pe_int pa_nil)))) pa_nil)) (pa_cons (pe_tup (pa_cons pe_str (pa_cons (pv 1) pa_nil))) pa_nil))))) pss_nil) (pss_cons (ps_if (pt_cmpR (op_eqs hr.units) (pe_ix ix_seq (pv 2) pe_int (fun _ _ => rfl)) pe_str (nomark _)) (pss_cons (ps_set (i := 7) sc_71.nd rfl (Or.inr rfl) (pe_df D__law_g_whys (hr.mono (by decide)) (by rfl) (pa_cons (pv 0) pa_nil))) (pss_cons (ps_setLc (i := 9) (own := [("one", 8)]) (g := (gName 8)) (tt := (tAnd (tTest (tOp (rNes K) (tVar 8) (tVar 1))) (tAnd (tTest (tOp (rIn K true) (tOp (rIx K) (tVar 7) (tVar 8)) (tTup (tCons (tC (.str "marks")) (tCons (tC (.str "image")) tNil))))) (tTest (tOp (rEqs K) (tOp (rIx K) (tCall (spD 2 f_66) [] E0 (tCons (tVar 0) (tCons (tVar 8) tNil))) (tC (.int 2))) (tC (.int 0))))))) (te := (tVar 8)) rfl sc_71.nd rfl rfl (sw_true rfl rfl rfl (by decide +kernel)) (pi_range1 (by rfl) m_range (pa_cons (pe_ix ix_seq (pv 0) pe_int (fun _ _ => rfl)) pa_nil)) (blkOk_by (own := [("one", 8)]) (N := ["ring", "run", "event", "size", "block", "slot", "cells", "whys", "one", "others", "words", "put", "mark", "first", "last", "k", "ops", "at", "word"]) (sc := defScope (top 71)) (by decide +kernel)) (fun _ _ _ _ _ => (pg_name (i := 8) sc_71.nd rfl (Or.inl rfl))) (fun _ _ _ _ _ => (pts_one (PW.pt (pw_and (pt_cmpR (op_nes hr.units) (pv 8) (pv 1) (nomark _)) (pw_and (pt_cmpR op_notIn_seq (pe_ix ix_seq (pv 7) (pv 8) (fun _ _ => rfl)) (pe_tup (pa_cons pe_str (pa_cons pe_str pa_nil))) (by rfl)) (pw_and1 (pt_cmpR (op_eqs hr.units) (pe_ix ix_seq (pe_df D__law_g_cells (hr.mono (by decide)) (by rfl) (pa_cons (pv 0) (pa_cons (pv 8) pa_nil))) pe_int (fun _ _ => rfl)) pe_int (nomark _)))))))) (fun _ _ _ _ _ => (pv 8))) (pss_one (ps_ret (pe_ifExp (pt_cmpR (op_nes hr.units) (pv 9) (pe_lst pa_nil) (nomark _)) (pe_tup (pa_cons (pe_lst (pa_cons (pe_tup (pa_cons pe_str (pa_cons (pe_op op_times (pv 1) (pv 3)) (pa_cons pe_int pa_nil)))) pa_nil)) (pa_cons (pe_tup (pa_cons pe_str (pa_cons (pv 1) pa_nil))) pa_nil))) (pe_tup (pa_cons pe_str (pa_cons pe_str pa_nil)))))))) pss_nil) (pss_cons (ps_set (i := 10) sc_71.nd rfl (Or.inl rfl) (pe_ifExp (pt_cmpR (op_eqs hr.units) (pe_ix ix_seq (pe_ix ix_seq (pv 2) pe_int (fun _ _ => rfl)) pe_int (fun _ _ => rfl)) pe_str (nomark _)) (pe_ix ix_seq (pe_ix ix_seq (pv 2) pe_int (fun _ _ => rfl)) pe_int (fun _ _ => rfl)) (pe_slice sl_all (pe_ix ix_seq (pe_ix ix_seq (pv 2) pe_int (fun _ _ => rfl)) pe_int (fun _ _ => rfl)) (po_some pe_int) po_none))) (pss_cons (ps_if (pt_cmpR (op_nes hr.units) (pe_ix ix_seq (pe_df D__law_g_cells (hr.mono (by decide)) (by rfl) (pa_cons (pv 0) (pa_cons (pv 1) pa_nil))) pe_int (fun _ _ => rfl)) pe_int (nomark _)) (pss_one (ps_ret (pe_tup (pa_cons pe_str (pa_cons pe_str pa_nil))))) pss_nil) (pss_cons (ps_if (PW.pt (pw_and (pt_cmpR (op_eqs hr.units) (pe_ix ix_seq (pe_ix ix_seq (pv 2) pe_int (fun _ _ => rfl)) pe_int (fun _ _ => rfl)) pe_str (nomark _)) (pw_and1 (pt_cmpR (op_nes hr.units) (pe_slice sl_all (pe_ix ix_seq (pe_ix ix_seq (pv 2) pe_int (fun _ _ => rfl)) pe_int (fun _ _ => rfl)) po_none (po_some pe_int)) (pe_df D__law_f_sums (hr.mono (by decide)) (by rfl) (pa_cons (pe_ix ix_seq (pe_ix ix_seq (pv 0) pe_int (fun _ _ => rfl)) pe_int (fun _ _ => rfl)) (pa_cons (pe_df D__law_g_image (hr.mono (by decide)) (by rfl) (pa_cons (pv 0) (pa_cons (pv 1) pa_nil))) pa_nil))) (nomark _))))) (pss_one (ps_ret (pe_tup (pa_cons pe_str (pa_cons pe_str pa_nil))))) pss_nil) (pss_cons (ps_if (PW.pt (pw_or (pt_cmpR op_le (pe_ix ix_seq (pv 10) pe_int (fun _ _ => rfl)) (pe_ix ix_seq (pe_df D__law_g_image (hr.mono (by decide)) (by rfl) (pa_cons (pv 0) (pa_cons (pv 1) pa_nil))) pe_int (fun _ _ => rfl)) (nomark _)) (pw_or1 (pt_cmpR op_gt (pe_callB cr_len (by rfl) m_len (by decide +kernel) (pa_cons (pv 10) pa_nil)) (pe_op op_sub (pv 3) pe_int) (nomark _))))) (pss_one (ps_ret (pe_tup (pa_cons pe_str (pa_cons (pe_ifExp (pt_cmpR op_le (pe_ix ix_seq (pv 10) pe_int (fun _ _ => rfl)) (pe_ix ix_seq (pe_df D__law_g_image (hr.mono (by decide)) (by rfl) (pa_cons (pv 0) (pa_cons (pv 1) pa_nil))) pe_int (fun _ _ => rfl)) (nomark _)) pe_str pe_str) pa_nil))))) pss_nil) (pss_cons (ps_par (i := 11) (j := 12) (by rfl) sc_71.nd rfl rfl (by decide) rfl rfl (pa_cons (pe_ifExp (pt_cmpR (op_eqs hr.units) (pv 1) (pe_op op_sub (pe_ix ix_seq (pv 0) pe_int (fun _ _ => rfl)) pe_int) (nomark _)) pe_int (pe_op op_plus (pv 1) pe_int)) (pa_cons (pe_df D__law_f_mark (hr.mono (by decide)) (by rfl) (pa_cons (pe_ix ix_seq (pe_ix ix_seq (pv 0) pe_int (fun _ _ => rfl)) pe_int (fun _ _ => rfl)) pa_nil)) pa_nil)) (by rfl)) (pss_cons (ps_asg (pe_tup (pa_cons (pe_op op_times (pv 11) (pv 3)) (pa_cons (pe_op op_sub (pe_op op_plus (pe_op op_times (pv 11) (pv 3)) (pv 3)) pe_int) pa_nil))) (pg_or (pg_tup rfl (pgs_cons (pg_name (i := 13) sc_71.nd rfl (Or.inr rfl)) (pgs_cons (pg_name (i := 14) sc_71.nd rfl (Or.inl rfl)) pgs_nil))) (pg_lst rfl (pgs_cons (pg_name (i := 13) sc_71.nd rfl (Or.inr rfl)) (pgs_cons (pg_name (i := 14) sc_71.nd rfl (Or.inl rfl)) pgs_nil))))) (pss_cons (ps_set (i := 16) sc_71.nd rfl (Or.inl rfl) (pe_op op_plus (pe_lst (pa_cons (pe_tup (pa_cons pe_str (pa_cons (pv 14) (pa_cons pe_int pa_nil)))) (pa_cons (pe_tup (pa_cons pe_str (pa_cons (pv 13) (pa_cons pe_int pa_nil)))) pa_nil))) (pe_lc (own := [("k", 15)]) (g := (gName 15)) (tt := tYes) (te := (tTup (tCons (tC (.str "erase")) (tCons (tOp (rPlus K) (tOp (rI CDiv fun i j => .int (i / j)) (tVar 13) (tVar 4)) (tVar 15)) tNil)))) rfl sc_71.nd (pi_range1 (by rfl) m_range (pa_cons (pe_op op_fdiv (pv 3) (pv 4)) pa_nil)) (blkOk_by (own := [("k", 15)]) (N := ["ring", "run", "event", "size", "block", "slot", "cells", "whys", "one", "others", "words", "put", "mark", "first", "last", "k", "ops", "at", "word"]) (sc := defScope (top 71)) (by decide +kernel)) (fun _ _ _ _ _ => (pg_name (i := 15) sc_71.nd rfl (Or.inl rfl))) (fun _ _ _ _ _ => pts_nil) (fun _ _ _ _ _ => (pe_tup (pa_cons pe_str (pa_cons (pe_op op_plus (pe_op op_fdiv (pv 13) (pv 4)) (pv 15)) pa_nil))))))) (pss_cons (ps_set (i := 16) sc_71.nd rfl (Or.inl rfl) (pe_op op_plus (pe_op op_plus (pv 16) (pe_lc (own := [("at", 17), ("word", 18)]) (g := (gTup K 2 (gCons (gName 17) (gCons (gName 18) gNil)))) (tt := tYes) (te := (tTup (tCons (tC (.str "write")) (tCons (tOp (rPlus K) (tOp (rPlus K) (tVar 13) (tC (.int 3))) (tVar 17)) (tCons (tVar 18) tNil))))) rfl sc_71.nd (pi_enum (by rfl) m_enumerate (pa_cons (pv 10) pa_nil)) (blkOk_by (own := [("at", 17), ("word", 18)]) (N := ["ring", "run", "event", "size", "block", "slot", "cells", "whys", "one", "others", "words", "put", "mark", "first", "last", "k", "ops", "at", "word"]) (sc := defScope (top 71)) (by decide +kernel)) (fun _ _ _ _ _ => (pg_tup rfl (pgs_cons (pg_name (i := 17) sc_71.nd rfl (Or.inl rfl)) (pgs_cons (pg_name (i := 18) sc_71.nd rfl (Or.inl rfl)) pgs_nil)))) (fun _ _ _ _ _ => pts_nil) (fun _ _ _ _ _ => (pe_tup (pa_cons pe_str (pa_cons (pe_op op_plus (pe_op op_plus (pv 13) pe_int) (pv 17)) (pa_cons (pv 18) pa_nil))))))) (pe_lst (pa_cons (pe_tup (pa_cons pe_str (pa_cons (pv 14) (pa_cons (pv 12) pa_nil)))) (pa_cons (pe_tup (pa_cons pe_str (pa_cons (pv 13) (pa_cons (pv 12) pa_nil)))) pa_nil))))) (pss_one (ps_ret (pe_tup (pa_cons (pv 16) (pa_cons (pe_tup (pa_cons pe_str (pa_cons (pv 11) (pa_cons (pe_ix ix_seq (pv 10) pe_int (fun _ _ => rfl)) pa_nil)))) pa_nil))))))))))))))))))), (rs_seq (rs_asg [true, false, false, false, false, false, false, false, false, false, false, false, false, false, false, false, false, false, false] (re_tup (ra_cons (re_op opd_i (re_cb cbd_len (ra_cons (re_op opd_ix (re_op opd_ix (re_var 0) (re_int 1)) (re_int 2)) ra_nil)) (re_op opd_ix (re_var 0) (re_int 0))) (ra_cons (re_op opd_ix (re_op opd_ix (re_var 0) (re_int 1)) (re_int 1)) ra_nil))) (rgo_seq (rgos_cons (rgo_name 3) (rgos_cons (rgo_name 4) rgos_nil)))) (rs_seq (rs_set 5 [true, false, false, false, false, false, false, false, false, false, false, false, false, false, false, false, false, false, false] (re_call (ra_cons (re_var 0) ra_nil))) (rs_seq (rs_if [false, false, true, false, false, false, false, false, false, false, false, false, false, false, false, false, false, false, false] (rt_test (re_op opd_eq (re_op opd_ix (re_var 2) (re_int 0)) (re_str "start"))) (rs_seq (rs_if [false, false, false, false, false, true, false, false, false, false, false, false, false, false, false, false, false, false, false] (rt_b (re_isN (re_var 5))) (rs_ret [false, false, false, false, false, false, false, false, false, false, false, false, false, false, false, false, false, false, false] (re_tup (ra_cons (re_lst ra_nil) (ra_cons (re_tup (ra_cons (re_str "none") ra_nil)) ra_nil)))) rs_next) (rs_seq (rs_set 6 [true, false, false, false, false, true, false, false, false, false, false, false, false, false, false, false, false, false, false] (re_call (ra_cons (re_var 0) (ra_cons (re_var 5) ra_nil)))) (rs_ret [true, false, false, true, false, true, true, false, false, false, false, false, false, false, false, false, false, false, false] (re_tup (ra_cons (re_if (rt_or (rt_test (re_op opd_eq (re_op opd_ix (re_var 6) (re_int 1)) (re_int 0))) (rt_test (re_op opd_eq (re_op opd_ix (re_var 6) (re_int 2)) (re_int 0)))) (re_lst ra_nil) (re_lst (ra_cons (re_tup (ra_cons (re_str "write") (ra_cons (re_op opd_plus (re_op opd_times (re_var 5) (re_var 3)) (re_int 1)) (ra_cons (re_int 0) ra_nil)))) ra_nil))) (ra_cons (re_tup (ra_cons (re_str "run") (ra_cons (re_var 5) (ra_cons (re_op opd_ix (re_call (ra_cons (re_var 0) (ra_cons (re_var 5) ra_nil))) (re_int 0)) ra_nil)))) ra_nil)))))) rs_next) (rs_seq (rs_if [true, true, false, false, false, false, false, false, false, false, false, false, false, false, false, false, false, false, false] (rt_or (rt_b (re_isN (re_var 1))) (rt_b (re_isN (re_call (ra_cons (re_var 0) (ra_cons (re_var 1) ra_nil)))))) (rs_ret [false, false, false, false, false, false, false, false, false, false, false, false, false, false, false, false, false, false, false] (re_tup (ra_cons (re_str "refused") (ra_cons (re_str "not run") ra_nil)))) rs_next) (rs_seq (rs_if [false, false, true, false, false, false, false, false, false, false, false, false, false, false, false, false, false, false, false] (rt_test (re_op opd_eq (re_op opd_ix (re_var 2) (re_int 0)) (re_str "confirm"))) (rs_ret [false, true, false, true, false, false, false, false, false, false, false, false, false, false, false, false, false, false, false] (re_tup (ra_cons (re_lst (ra_cons (re_tup (ra_cons (re_str "write") (ra_cons (re_op opd_plus (re_op opd_times (re_var 1) (re_var 3)) (re_int 2)) (ra_cons (re_int 0) ra_nil)))) ra_nil)) (ra_cons (re_tup (ra_cons (re_str "good") (ra_cons (re_var 1) ra_nil))) ra_nil)))) rs_next) (rs_seq (rs_if [false, false, true, false, false, false, false, false, false, false, false, false, false, false, false, false, false, false, false] (rt_test (re_op opd_eq (re_op opd_ix (re_var 2) (re_int 0)) (re_str "back"))) (rs_seq (rs_set 7 [true, false, false, false, false, false, false, false, false, false, false, false, false, false, false, false, false, false, false] (re_call (ra_cons (re_var 0) ra_nil))) (rs_seq (rs_set 9 [true, true, false, false, false, false, false, true, true, false, false, false, false, false, false, false, false, false, false] (re_lc (vs := [8]) (ri_rng1 (ra_cons (re_op opd_ix (re_var 0) (re_int 0)) ra_nil)) (rg_name 8 (by decide)) (rt_and (rt_test (re_op opd_ne (re_var 8) (re_var 1))) (rt_and (rt_test (re_op opd_nin (re_op opd_ix (re_var 7) (re_var 8)) (re_tup (ra_cons (re_str "marks") (ra_cons (re_str "image") ra_nil))))) (rt_test (re_op opd_eq (re_op opd_ix (re_call (ra_cons (re_var 0) (ra_cons (re_var 8) ra_nil))) (re_int 2)) (re_int 0))))) (re_var 8))) (rs_ret [false, true, false, true, false, false, false, false, false, true, false, false, false, false, false, false, false, false, false] (re_if (rt_test (re_op opd_ne (re_var 9) (re_lst ra_nil))) (re_tup (ra_cons (re_lst (ra_cons (re_tup (ra_cons (re_str "write") (ra_cons (re_op opd_times (re_var 1) (re_var 3)) (ra_cons (re_int 0) ra_nil)))) ra_nil)) (ra_cons (re_tup (ra_cons (re_str "back") (ra_cons (re_var 1) ra_nil))) ra_nil))) (re_tup (ra_cons (re_str "refused") (ra_cons (re_str "alone") ra_nil))))))) rs_next) (rs_seq (rs_set 10 [false, false, true, false, false, false, false, false, false, false, false, false, false, false, false, false, false, false, false] (re_if (rt_test (re_op opd_eq (re_op opd_ix (re_op opd_ix (re_var 2) (re_int 1)) (re_int 0)) (re_str "image"))) (re_op opd_ix (re_op opd_ix (re_var 2) (re_int 1)) (re_int 1)) (re_sl (re_op opd_ix (re_op opd_ix (re_var 2) (re_int 1)) (re_int 1)) (ro_some (re_int 5)) ro_none))) (rs_seq (rs_if [true, true, false, false, false, false, false, false, false, false, false, false, false, false, false, false, false, false, false] (rt_test (re_op opd_ne (re_op opd_ix (re_call (ra_cons (re_var 0) (ra_cons (re_var 1) ra_nil))) (re_int 2)) (re_int 0))) (rs_ret [false, false, false, false, false, false, false, false, false, false, false, false, false, false, false, false, false, false, false] (re_tup (ra_cons (re_str "refused") (ra_cons (re_str "on trial") ra_nil)))) rs_next) (rs_seq (rs_if [true, true, true, false, false, false, false, false, false, false, false, false, false, false, false, false, false, false, false] (rt_and (rt_test (re_op opd_eq (re_op opd_ix (re_op opd_ix (re_var 2) (re_int 1)) (re_int 0)) (re_str "patch"))) (rt_test (re_op opd_ne (re_sl (re_op opd_ix (re_op opd_ix (re_var 2) (re_int 1)) (re_int 1)) ro_none (ro_some (re_int 2))) (re_call (ra_cons (re_op opd_ix (re_op opd_ix (re_var 0) (re_int 1)) (re_int 0)) (ra_cons (re_call (ra_cons (re_var 0) (ra_cons (re_var 1) ra_nil))) ra_nil)))))) (rs_ret [false, false, false, false, false, false, false, false, false, false, false, false, false, false, false, false, false, false, false] (re_tup (ra_cons (re_str "refused") (ra_cons (re_str "not made") ra_nil)))) rs_next) (rs_seq (rs_if [true, true, false, true, false, false, false, false, false, false, true, false, false, false, false, false, false, false, false] (rt_or (rt_test (re_op opd_b0 (re_op opd_ix (re_var 10) (re_int 0)) (re_op opd_ix (re_call (ra_cons (re_var 0) (ra_cons (re_var 1) ra_nil))) (re_int 0)))) (rt_test (re_op opd_b0 (re_cb cbd_len (ra_cons (re_var 10) ra_nil)) (re_op opd_i0 (re_var 3) (re_int 4))))) (rs_ret [true, true, false, false, false, false, false, false, false, false, true, false, false, false, false, false, false, false, false] (re_tup (ra_cons (re_str "refused") (ra_cons (re_if (rt_test (re_op opd_b0 (re_op opd_ix (re_var 10) (re_int 0)) (re_op opd_ix (re_call (ra_cons (re_var 0) (ra_cons (re_var 1) ra_nil))) (re_int 0)))) (re_str "old") (re_str "no room")) ra_nil)))) rs_next) (rs_seq (rs_par 11 12 [true, true, false, false, false, false, false, false, false, false, false, false, false, false, false, false, false, false, false] (ra_cons (re_if (rt_test (re_op opd_eq (re_var 1) (re_op opd_i0 (re_op opd_ix (re_var 0) (re_int 0)) (re_int 1)))) (re_int 0) (re_op opd_plus (re_var 1) (re_int 1))) (ra_cons (re_call (ra_cons (re_op opd_ix (re_op opd_ix (re_var 0) (re_int 1)) (re_int 0)) ra_nil)) ra_nil))) (rs_seq (rs_asg [false, false, false, true, false, false, false, false, false, false, false, true, false, false, false, false, false, false, false] (re_tup (ra_cons (re_op opd_times (re_var 11) (re_var 3)) (ra_cons (re_op opd_i0 (re_op opd_plus (re_op opd_times (re_var 11) (re_var 3)) (re_var 3)) (re_int 1)) ra_nil))) (rgo_seq (rgos_cons (rgo_name 13) (rgos_cons (rgo_name 14) rgos_nil)))) (rs_seq (rs_set 16 [false, false, false, true, true, false, false, false, false, false, false, false, false, true, true, true, false, false, false] (re_op opd_plus (re_lst (ra_cons (re_tup (ra_cons (re_str "write") (ra_cons (re_var 14) (ra_cons (re_int 0) ra_nil)))) (ra_cons (re_tup (ra_cons (re_str "write") (ra_cons (re_var 13) (ra_cons (re_int 0) ra_nil)))) ra_nil))) (re_lc (vs := [15]) (ri_rng1 (ra_cons (re_op opd_i (re_var 3) (re_var 4)) ra_nil)) (rg_name 15 (by decide)) rt_yes (re_tup (ra_cons (re_str "erase") (ra_cons (re_op opd_plus (re_op opd_i (re_var 13) (re_var 4)) (re_var 15)) ra_nil)))))) (rs_seq (rs_set 16 [false, false, false, false, false, false, false, false, false, false, true, false, true, true, true, false, true, true, true] (re_op opd_plus (re_op opd_plus (re_var 16) (re_lc (vs := [17, 18]) (ri_enum (ra_cons (re_var 10) ra_nil)) (rg_tup (rgs_cons (rg_name 17 (by decide)) (rgs_cons (rg_name 18 (by decide)) rgs_nil))) rt_yes (re_tup (ra_cons (re_str "write") (ra_cons (re_op opd_plus (re_op opd_plus (re_var 13) (re_int 3)) (re_var 17)) (ra_cons (re_var 18) ra_nil)))))) (re_lst (ra_cons (re_tup (ra_cons (re_str "write") (ra_cons (re_var 14) (ra_cons (re_var 12) ra_nil)))) (ra_cons (re_tup (ra_cons (re_str "write") (ra_cons (re_var 13) (ra_cons (re_var 12) ra_nil)))) ra_nil))))) (rs_ret [false, false, false, false, false, false, false, false, false, false, true, true, false, false, false, false, true, false, false] (re_tup (ra_cons (re_var 16) (ra_cons (re_tup (ra_cons (re_str "put") (ra_cons (re_var 11) (ra_cons (re_op opd_ix (re_var 10) (re_int 0)) ra_nil)))) ra_nil))))))))))))))))))⟩) (fun _ _ _ _ _ h => h)
/-- _law_g_step -/
def b_72 : DS := (dSeq (dSet 3 [true, true, true, false, false, false, false, false, false] (dCall 3 f_71 (dCons (dVar 0) (dCons (dVar 1) (dCons (dVar 2) dNil))))) (dSeq (dIfS [false, false, false, true, false, false, false, false, false] (dTest (dOp dEq (dOp dIx (dVar 3) (dC (.int 0))) (dC (.str "refused")))) (dRetV 3) dNext) (dSeq (dAsg [false, false, false, true, false, false, false, false, false] (dVar 3) (dgSeq 2 (dgCons (dgName 4) (dgCons (dgName 5) dgNil)))) (dSeq (dPar 6 7 [true, false, true, false, false, false, false, false, false] (dCons (dOp dIx (dVar 2) (dUn (dU fun i => .int (-i)) (dC (.int 1)))) (dCons (dOp dIx (dVar 0) (dC (.int 1))) dNil))) (dSeq (dIfS [false, false, false, false, false, false, true, false, false] (dTest (dIsN (dVar 6))) (dSeq (dFor [false, false, false, false, true, false, false, false, false] (dItems (dVar 4)) (dgName 8) (dSet 7 [false, false, false, false, false, false, false, true, true] (dCall 2 f_61 (dCons (dVar 7) (dCons (dVar 8) dNil))))) (dRet [true, true, false, false, false, true, false, true, false] (dTup (dCons (dC (.str "done")) (dCons (dVar 5) (dCons (dTup (dCons (dOp dIx (dVar 0) (dC (.int 0))) (dCons (dVar 7) dNil))) (dCons (dIf (dTest (dOp dIn (dOp dIx (dVar 5) (dC (.int 0))) (dTup (dCons (dC (.str "none")) (dCons (dC (.str "back")) dNil))))) (dC .non) (dIf (dTest (dOp dEq (dOp dIx (dVar 5) (dC (.int 0))) (dC (.str "run")))) (dOp dIx (dVar 5) (dC (.int 1))) (dVar 1))) dNil))))))) dNext) (dSeq (dIfS [false, false, false, false, true, false, true, true, false] (dOr (dTest (dOp (dI0 fun i j => .bl (decide (j ≤ i))) (dOp dIx (dVar 6) (dC (.int 0))) (dCB dLen (dCons (dVar 4) dNil)))) (dNot (dTest (dCall 4 f_64 (dCons (dVar 7) (dCons (dVar 4) (dCons (dOp dIx (dVar 6) (dC (.int 0))) (dCons (dOp dIx (dVar 6) (dC (.int 1))) dNil)))))))) (dRet [false, false, false, false, false, false, false, false, false] (dTup (dCons (dC (.str "refused")) (dCons (dC (.str "cut")) dNil)))) dNext) (dRet [true, false, false, false, true, false, true, true, false] (dTup (dCons (dC (.str "done")) (dCons (dTup (dCons (dC (.str "cut")) dNil)) (dCons (dTup (dCons (dOp dIx (dVar 0) (dC (.int 0))) (dCons (dCall 4 f_63 (dCons (dVar 7) (dCons (dVar 4) (dCons (dOp dIx (dVar 6) (dC (.int 0))) (dCons (dOp dIx (dVar 6) (dC (.int 1))) dNil))))) dNil))) (dCons (dC .non) dNil))))))))))))
def f_72 : DF := fun ds n q => b_72 (endD q) (startD ["ring", "run", "event", "found", "ops", "told", "cut", "store", "op"] ds) n
theorem sc_72 : FnScope ["ring", "run", "event", "found", "ops", "told", "cut", "store", "op"] ["ring", "run", "event"] (defScope (top 72)) := ⟨rfl, rfl, rfl, by decide, rfl, by decide +kernel, by decide +kernel⟩
theorem ok_72 {f : Addr} {fd : FuncData} (F : Fun K "_law_g_step" "_law_g_step" (top 72) f fd) (D__law_g_ops : Df P w K mg base "_law_g_ops" 6 ["ring", "run", "event"] (spD 3 f_71)) (D__law_f_done : Df P w K mg base "_law_f_done" 2 ["store", "op"] (spD 2 f_61)) (D__law_f_is_torn : Df P w K mg base "_law_f_is_torn" 3 ["store", "ops", "index", "torn"] (spD 4 f_64)) (D__law_f_cut : Df P w K mg base "_law_f_cut" 3 ["store", "ops", "index", "torn"] (spD 4 f_63))  (m_len : mg "len" = none) : FnOk P w K mg base CX0 7 f fd ["ring", "run", "event"] (spD 3 f_72) :=
  fn_data (k := 6) (fb := b_72) F sc_72 rfl (fun cdv A outer s0 H E hr => ⟨_, (pss_cons (ps_set (i := 3) sc_72.nd rfl (Or.inl rfl) (pe_df D__law_g_ops (hr.mono (by decide)) (by rfl) (pa_cons (pv 0) (pa_cons (pv 1) (pa_cons (pv 2) pa_nil))))) (pss_cons (ps_if (pt_cmpR (op_eqs hr.units) (pe_ix ix_seq (pv 3) pe_int (fun _ _ => rfl)) pe_str (nomark _)) (pss_one (ps_ret (pv 3))) pss_nil) (pss_cons (ps_asg (pv 3) (pg_or (pg_tup rfl (pgs_cons (pg_name (i := 4) sc_72.nd rfl (Or.inl rfl)) (pgs_cons (pg_name (i := 5) sc_72.nd rfl (Or.inl rfl)) pgs_nil))) (pg_lst rfl (pgs_cons (pg_name (i := 4) sc_72.nd rfl (Or.inl rfl)) (pgs_cons (pg_name (i := 5) sc_72.nd rfl (Or.inl rfl)) pgs_nil))))) (pss_cons (ps_par (i := 6) (j := 7) (by rfl) sc_72.nd rfl rfl (by decide) rfl rfl (pa_cons (pe_ix ix_seq (pv 2) (pe_un un_neg pe_int) (fun _ _ => rfl)) (pa_cons (pe_ix ix_seq (pv 0) pe_int (fun _ _ => rfl)) pa_nil)) (by rfl)) (pss_cons (ps_if (pt_cmp (pc_isN (pv 6)) rfl) (pss_cons (ps_for PassesOwn.never rfl (pi_lt (pv 4)) (pg_name (i := 8) sc_72.nd rfl (Or.inl rfl)) (pss_one (ps_set (i := 7) sc_72.nd rfl (Or.inl rfl) (pe_df D__law_f_done (hr.mono (by decide)) (by rfl) (pa_cons (pv 7) (pa_cons (pv 8) pa_nil)))))) (pss_one (ps_ret (pe_tup (pa_cons pe_str (pa_cons (pv 5) (pa_cons (pe_tup (pa_cons (pe_ix ix_seq (pv 0) pe_int (fun _ _ => rfl)) (pa_cons (pv 7) pa_nil))) (pa_cons (pe_ifExp (pt_cmpR op_in_seq (pe_ix ix_seq (pv 5) pe_int (fun _ _ => rfl)) (pe_tup (pa_cons pe_str (pa_cons pe_str pa_nil))) (by rfl)) pe_non (pe_ifExp (pt_cmpR (op_eqs hr.units) (pe_ix ix_seq (pv 5) pe_int (fun _ _ => rfl)) pe_str (nomark _)) (pe_ix ix_seq (pv 5) pe_int (fun _ _ => rfl)) (pv 1))) pa_nil)))))))) pss_nil) (pss_cons (ps_if (PW.pt (pw_or (pt_cmpR op_ge (pe_ix ix_seq (pv 6) pe_int (fun _ _ => rfl)) (pe_callB cr_len (by rfl) m_len (by decide +kernel) (pa_cons (pv 4) pa_nil)) (nomark _)) (pw_or1 (pt_not (pt_val (pe_df D__law_f_is_torn (hr.mono (by decide)) (by rfl) (pa_cons (pv 7) (pa_cons (pv 4) (pa_cons (pe_ix ix_seq (pv 6) pe_int (fun _ _ => rfl)) (pa_cons (pe_ix ix_seq (pv 6) pe_int (fun _ _ => rfl)) pa_nil)))))))))) (pss_one (ps_ret (pe_tup (pa_cons pe_str (pa_cons pe_str pa_nil))))) pss_nil) (pss_one (ps_ret (pe_tup (pa_cons pe_str (pa_cons (pe_tup (pa_cons pe_str pa_nil)) (pa_cons (pe_tup (pa_cons (pe_ix ix_seq (pv 0) pe_int (fun _ _ => rfl)) (pa_cons (pe_df D__law_f_cut (hr.mono (by decide)) (by rfl) (pa_cons (pv 7) (pa_cons (pv 4) (pa_cons (pe_ix ix_seq (pv 6) pe_int (fun _ _ => rfl)) (pa_cons (pe_ix ix_seq (pv 6) pe_int (fun _ _ => rfl)) pa_nil))))) pa_nil))) (pa_cons pe_non pa_nil))))))))))))), (rs_seq (rs_set 3 [true, true, true, false, false, false, false, false, false] (re_call (ra_cons (re_var 0) (ra_cons (re_var 1) (ra_cons (re_var 2) ra_nil))))) (rs_seq (rs_if [false, false, false, true, false, false, false, false, false] (rt_test (re_op opd_eq (re_op opd_ix (re_var 3) (re_int 0)) (re_str "refused"))) (rs_retV 3) rs_next) (rs_seq (rs_asg [false, false, false, true, false, false, false, false, false] (re_var 3) (rgo_seq (rgos_cons (rgo_name 4) (rgos_cons (rgo_name 5) rgos_nil)))) (rs_seq (rs_par 6 7 [true, false, true, false, false, false, false, false, false] (ra_cons (re_op opd_ix (re_var 2) (re_un und_i (re_int 1))) (ra_cons (re_op opd_ix (re_var 0) (re_int 1)) ra_nil))) (rs_seq (rs_if [false, false, false, false, false, false, true, false, false] (rt_b (re_isN (re_var 6))) (rs_seq (rs_for [false, false, false, false, true, false, false, false, false] (ri_lt (re_var 4)) (rgo_name 8) (rs_set 7 [false, false, false, false, false, false, false, true, true] (re_call (ra_cons (re_var 7) (ra_cons (re_var 8) ra_nil))))) (rs_ret [true, true, false, false, false, true, false, true, false] (re_tup (ra_cons (re_str "done") (ra_cons (re_var 5) (ra_cons (re_tup (ra_cons (re_op opd_ix (re_var 0) (re_int 0)) (ra_cons (re_var 7) ra_nil))) (ra_cons (re_if (rt_test (re_op opd_in (re_op opd_ix (re_var 5) (re_int 0)) (re_tup (ra_cons (re_str "none") (ra_cons (re_str "back") ra_nil))))) re_non (re_if (rt_test (re_op opd_eq (re_op opd_ix (re_var 5) (re_int 0)) (re_str "run"))) (re_op opd_ix (re_var 5) (re_int 1)) (re_var 1))) ra_nil))))))) rs_next) (rs_seq (rs_if [false, false, false, false, true, false, true, true, false] (rt_or (rt_test (re_op opd_b0 (re_op opd_ix (re_var 6) (re_int 0)) (re_cb cbd_len (ra_cons (re_var 4) ra_nil)))) (rt_not (rt_b (re_call (ra_cons (re_var 7) (ra_cons (re_var 4) (ra_cons (re_op opd_ix (re_var 6) (re_int 0)) (ra_cons (re_op opd_ix (re_var 6) (re_int 1)) ra_nil)))))))) (rs_ret [false, false, false, false, false, false, false, false, false] (re_tup (ra_cons (re_str "refused") (ra_cons (re_str "cut") ra_nil)))) rs_next) (rs_ret [true, false, false, false, true, false, true, true, false] (re_tup (ra_cons (re_str "done") (ra_cons (re_tup (ra_cons (re_str "cut") ra_nil)) (ra_cons (re_tup (ra_cons (re_op opd_ix (re_var 0) (re_int 0)) (ra_cons (re_call (ra_cons (re_var 7) (ra_cons (re_var 4) (ra_cons (re_op opd_ix (re_var 6) (re_int 0)) (ra_cons (re_op opd_ix (re_var 6) (re_int 1)) ra_nil))))) ra_nil))) (ra_cons re_non ra_nil))))))))))))⟩) (fun _ _ _ _ _ h => h)
/-- _law_g_events -/
def b_73 : DS := (dSeq (dAsg [false, false, false, false, false, false, false, false, false, false, false, false, false, false, false, false, false, false, false, false, false] (dTup (dCons (dLst dNil) (dCons (dLst dNil) (dCons (dC .non) (dCons (dC (.int 0)) dNil))))) (dgSeq 4 (dgCons (dgName 3) (dgCons (dgName 4) (dgCons (dgName 5) (dgCons (dgName 6) dgNil)))))) (dSeq (dForR [false, false, true, false, false, false, false, false, false, false, false, false, false, false, false, false, false, false, false, false, false] (dRng1 (dCons (dVar 2) dNil)) (dgName 7) (dSeq (dPar 8 6 [true, false, false, false, false, false, true, false, false, false, false, false, false, false, false, false, false, false, false, false, false] (dCons (dCall 2 fDraw (dCons (dVar 0) (dCons (dC (.int 9)) dNil))) (dCons (dOp dPlus (dVar 6) (dC (.int 1))) dNil))) (dSeq (dSet 9 [true, false, false, false, false, false, true, false, false, false, false, false, false, false, false, false, false, false, false, false, false] (dIf (dTest (dOp dEq (dCall 2 fDraw (dCons (dVar 0) (dCons (dC (.int 6)) dNil))) (dC (.int 0)))) (dCall 2 fDraw (dCons (dVar 0) (dCons (dOp dPlus (dVar 6) (dC (.int 1))) dNil))) (dOp dPlus (dVar 6) (dCall 2 fDraw (dCons (dVar 0) (dCons (dC (.int 2)) dNil)))))) (dSeq (dPar 10 11 [true, true, false, false, false, false, false, false, false, true, false, false, false, false, false, false, false, false, false, false, false] (dCons (dOp dIx (dOp dIx (dVar 1) (dC (.int 1))) (dC (.int 0))) (dCons (dCall 3 f_65 (dCons (dVar 0) (dCons (dOp dIx (dOp dIx (dVar 1) (dC (.int 1))) (dC (.int 0))) (dCons (dCB dMin (dCons (dOp (dI0 fun i j => .int (i - j)) (dCall 1 f_58 (dCons (dOp dIx (dOp dIx (dVar 1) (dC (.int 1))) (dC (.int 0))) dNil)) (dC (.int 1))) (dCons (dVar 9) dNil))) dNil)))) dNil))) (dSeq (dSet 12 [false, true, false, false, false, true, false, false, false, false, false, false, false, false, false, false, false, false, false, false, false] (dIf (dTest (dIsN (dVar 5))) (dC .non) (dCall 2 f_67 (dCons (dVar 1) (dCons (dVar 5) dNil))))) (dSeq (dSet 13 [true, false, false, false, false, false, false, false, false, false, true, true, true, false, false, false, false, false, false, false, false] (dIf (dTest (dIsN (dVar 12))) (dLst dNil) (dCall 2 f_55 (dCons (dVar 10) (dCons (dIf (dTest (dOp (dI0 fun i j => .bl (decide (j < i))) (dCall 2 fDraw (dCons (dVar 0) (dCons (dC (.int 5)) dNil))) (dC (.int 0)))) (dVar 12) (dOp dPlus (dVar 11) (dLst (dCons (dC (.int 1)) dNil)))) dNil))))) (dSeq (dSet 14 [true, false, false, false, false, false, false, false, false, false, true, true, true, true, false, false, false, false, false, false, false] (dIf (dOr (dTest (dIsN (dVar 12))) (dTest (dOp dEq (dCall 2 fDraw (dCons (dVar 0) (dCons (dC (.int 2)) dNil))) (dC (.int 0))))) (dTup (dCons (dC (.str "image")) (dCons (dVar 11) dNil))) (dTup (dCons (dC (.str "patch")) (dCons (dOp dPlus (dOp dPlus (dOp dPlus (dVar 13) (dCall 2 f_55 (dCons (dVar 10) (dCons (dVar 11) dNil)))) (dLst (dCons (dCB dLen (dCons (dVar 11) dNil)) dNil))) (dVar 11)) dNil))))) (dSeq (dSet 15 [false, false, false, false, false, false, false, false, false, false, false, false, false, false, true, false, false, false, false, false, false] (dTup (dCons (dC (.str "update")) (dCons (dVar 14) (dCons (dC .non) dNil))))) (dSeq (dSet 15 [true, false, false, false, false, true, false, false, true, false, false, false, false, false, false, true, false, false, false, false, false] (dIf (dOr (dTest (dOp (dI0 fun i j => .bl (decide (i < j))) (dVar 8) (dC (.int 3)))) (dAnd (dTest (dIsN (dVar 5))) (dTest (dOp (dI0 fun i j => .bl (decide (j < i))) (dCall 2 fDraw (dCons (dVar 0) (dCons (dC (.int 6)) dNil))) (dC (.int 0)))))) (dTup (dCons (dC (.str "start")) (dCons (dC .non) dNil))) (dIf (dTest (dOp (dI0 fun i j => .bl (decide (i < j))) (dVar 8) (dC (.int 5)))) (dTup (dCons (dC (.str "confirm")) (dCons (dC .non) dNil))) (dIf (dTest (dOp dEq (dVar 8) (dC (.int 5)))) (dTup (dCons (dC (.str "back")) (dCons (dC .non) dNil))) (dVar 15))))) (dSeq (dSet 16 [false, true, false, false, false, true, false, false, false, false, false, false, false, false, false, true, false, false, false, false, false] (dCall 3 f_71 (dCons (dVar 1) (dCons (dVar 5) (dCons (dVar 15) dNil))))) (dSeq (dIfS [true, false, false, false, false, false, false, false, false, false, false, false, false, false, false, false, true, false, false, false, false] (dAnd (dTest (dOp dNe (dOp dIx (dVar 16) (dC (.int 0))) (dC (.str "refused")))) (dAnd (dTest (dOp dNe (dOp dIx (dVar 16) (dC (.int 0))) (dLst dNil))) (dTest (dOp dEq (dCall 2 fDraw (dCons (dVar 0) (dCons (dC (.int 3)) dNil))) (dC (.int 0)))))) (dSeq (dPar 17 18 [true, true, false, false, false, false, false, false, false, false, false, false, false, false, false, false, true, false, false, false, false] (dCons (dCall 2 fDraw (dCons (dVar 0) (dCons (dCB dLen (dCons (dOp dIx (dVar 16) (dC (.int 0))) dNil)) dNil))) (dCons (dOp dIx (dVar 1) (dC (.int 1))) dNil))) (dSeq (dFor [false, false, false, false, false, false, false, false, false, false, false, false, false, false, false, false, true, true, false, false, false] (dItems (dSl (dOp dIx (dVar 16) (dC (.int 0))) dNoPart (dPart (dVar 17)))) (dgName 19) (dSet 18 [false, false, false, false, false, false, false, false, false, false, false, false, false, false, false, false, false, false, true, true, false] (dCall 2 f_61 (dCons (dVar 18) (dCons (dVar 19) dNil))))) (dSet 15 [true, false, false, false, false, false, false, false, false, false, false, false, false, false, false, true, true, true, true, false, false] (dOp dPlus (dSl (dVar 15) dNoPart (dPart (dUn (dU fun i => .int (-i)) (dC (.int 1))))) (dTup (dCons (dTup (dCons (dVar 17) (dCons (dCall 3 f_62 (dCons (dVar 0) (dCons (dVar 18) (dCons (dOp dIx (dOp dIx (dVar 16) (dC (.int 0))) (dVar 17)) dNil)))) dNil))) dNil)))))) (dIfS [true, false, false, false, false, false, false, false, false, false, false, false, false, false, false, false, false, false, false, false, false] (dTest (dOp dEq (dCall 2 fDraw (dCons (dVar 0) (dCons (dC (.int 20)) dNil))) (dC (.int 0)))) (dSet 15 [true, false, false, false, false, false, false, false, false, false, false, false, false, false, false, true, false, false, false, false, false] (dOp dPlus (dSl (dVar 15) dNoPart (dPart (dUn (dU fun i => .int (-i)) (dC (.int 1))))) (dTup (dCons (dTup (dCons (dCall 2 fDraw (dCons (dVar 0) (dCons (dC (.int 4)) dNil))) (dCons (dLst (dCons (dCall 2 fDraw (dCons (dVar 0) (dCons (dC (.int 4)) dNil))) dNil)) dNil))) dNil)))) dNext)) (dSeq (dSet 20 [false, true, false, false, false, true, false, false, false, false, false, false, false, false, false, true, false, false, false, false, false] (dCall 3 f_72 (dCons (dVar 1) (dCons (dVar 5) (dCons (dVar 15) dNil))))) (dSeq (dApp 3 [false, false, false, false, false, false, false, false, false, false, false, false, false, false, false, true, false, false, false, false, false] (dVar 15)) (dSeq (dApp 4 [false, false, false, false, false, false, false, false, false, false, false, false, false, false, false, false, false, false, false, false, true] (dVar 20)) (dAsg [false, true, false, false, false, true, false, false, false, false, false, false, false, false, false, false, false, false, false, false, true] (dIf (dTest (dOp dEq (dOp dIx (dVar 20) (dC (.int 0))) (dC (.str "done")))) (dTup (dCons (dOp dIx (dVar 20) (dC (.int 2))) (dCons (dOp dIx (dVar 20) (dC (.int 3))) dNil))) (dTup (dCons (dVar 1) (dCons (dVar 5) dNil)))) (dgSeq 2 (dgCons (dgName 1) (dgCons (dgName 5) dgNil)))))))))))))))))) (dRet [false, false, false, true, true, false, false, false, false, false, false, false, false, false, false, false, false, false, false, false, false] (dTup (dCons (dVar 3) (dCons (dVar 4) dNil))))))
def f_73 : DF := fun ds n q => b_73 (endD q) (startD ["stream", "ring", "many", "found", "tolds", "run", "latest", "k", "way", "version", "width", "image", "base", "first", "given", "event", "ops", "at", "store", "op", "told"] ds) n
theorem sc_73 : FnScope ["stream", "ring", "many", "found", "tolds", "run", "latest", "k", "way", "version", "width", "image", "base", "first", "given", "event", "ops", "at", "store", "op", "told"] ["stream", "ring", "many"] (defScope (top 73)) := ⟨rfl, rfl, rfl, by decide, rfl, by decide +kernel, by decide +kernel⟩
theorem ok_73 {f : Addr} {fd : FuncData} (F : Fun K "_law_g_events" "_law_g_events" (top 73) f fd) (D__law_draw : Df P w K mg base "_law_draw" 1 ["stream", "many"] (spD 2 fDraw)) (D__law_g_drawn_image : Df P w K mg base "_law_g_drawn_image" 2 ["stream", "width", "version"] (spD 3 f_65)) (D__law_f_ones : Df P w K mg base "_law_f_ones" 1 ["width"] (spD 1 f_58)) (D__law_g_image : Df P w K mg base "_law_g_image" 3 ["ring", "slot"] (spD 2 f_67)) (D__law_f_sums : Df P w K mg base "_law_f_sums" 1 ["width", "words"] (spD 2 f_55)) (D__law_g_ops : Df P w K mg base "_law_g_ops" 6 ["ring", "run", "event"] (spD 3 f_71)) (D__law_f_done : Df P w K mg base "_law_f_done" 2 ["store", "op"] (spD 2 f_61)) (D__law_f_torn : Df P w K mg base "_law_f_torn" 3 ["stream", "store", "op"] (spD 3 f_62)) (D__law_g_step : Df P w K mg base "_law_g_step" 7 ["ring", "run", "event"] (spD 3 f_72))  (m_len : mg "len" = none) (m_min : mg "min" = none) (m_range : mg "range" = none) : FnOk P w K mg base CX0 8 f fd ["stream", "ring", "many"] (spD 3 f_73) :=
  fn_data (k := 7) (fb := b_73) F sc_73 rfl (fun cdv A outer s0 H E hr => ⟨_, (pss_cons (ps_asg (pe_tup (pa_cons (pe_lst pa_nil) (pa_cons (pe_lst pa_nil) (pa_cons pe_non (pa_cons pe_int pa_nil))))) (pg_or (pg_tup rfl (pgs_cons (pg_name (i := 3) sc_73.nd rfl (Or.inl rfl)) (pgs_cons (pg_name (i := 4) sc_73.nd rfl (Or.inl rfl)) (pgs_cons (pg_name (i := 5) sc_73.nd rfl (Or.inl rfl)) (pgs_cons (pg_name (i := 6) sc_73.nd rfl (Or.inl rfl)) pgs_nil))))) (pg_lst rfl (pgs_cons (pg_name (i := 3) sc_73.nd rfl (Or.inl rfl)) (pgs_cons (pg_name (i := 4) sc_73.nd rfl (Or.inl rfl)) (pgs_cons (pg_name (i := 5) sc_73.nd rfl (Or.inl rfl)) (pgs_cons (pg_name (i := 6) sc_73.nd rfl (Or.inl rfl)) pgs_nil))))))) (pss_cons (ps_for PassesOwn.never rfl (pi_range1 (by rfl) m_range (pa_cons (pv 2) pa_nil)) (pg_name (i := 7) sc_73.nd rfl (Or.inl rfl)) (pss_cons (ps_par (i := 8) (j := 6) (by rfl) sc_73.nd rfl rfl (by decide) rfl rfl (pa_cons (pe_df D__law_draw (hr.mono (by decide)) (by rfl) (pa_cons (pv 0) (pa_cons pe_int pa_nil))) (pa_cons (pe_op op_plus (pv 6) pe_int) pa_nil)) (by rfl)) (pss_cons (ps_set (i := 9) sc_73.nd rfl (Or.inl rfl) (pe_ifExp (pt_cmpR (op_eqs hr.units) (pe_df D__law_draw (hr.mono (by decide)) (by rfl) (pa_cons (pv 0) (pa_cons pe_int pa_nil))) pe_int (nomark _)) (pe_df D__law_draw (hr.mono (by decide)) (by rfl) (pa_cons (pv 0) (pa_cons (pe_op op_plus (pv 6) pe_int) pa_nil))) (pe_op op_plus (pv 6) (pe_df D__law_draw (hr.mono (by decide)) (by rfl) (pa_cons (pv 0) (pa_cons pe_int pa_nil)))))) (pss_cons (ps_par (i := 10) (j := 11) (by rfl) sc_73.nd rfl rfl (by decide) rfl rfl (pa_cons (pe_ix ix_seq (pe_ix ix_seq (pv 1) pe_int (fun _ _ => rfl)) pe_int (fun _ _ => rfl)) (pa_cons (pe_df D__law_g_drawn_image (hr.mono (by decide)) (by rfl) (pa_cons (pv 0) (pa_cons (pe_ix ix_seq (pe_ix ix_seq (pv 1) pe_int (fun _ _ => rfl)) pe_int (fun _ _ => rfl)) (pa_cons (pe_callB (cr_minA rfl) (by rfl) m_min (by decide +kernel) (pa_cons (pe_op op_sub (pe_df D__law_f_ones (hr.mono (by decide)) (by rfl) (pa_cons (pe_ix ix_seq (pe_ix ix_seq (pv 1) pe_int (fun _ _ => rfl)) pe_int (fun _ _ => rfl)) pa_nil)) pe_int) (pa_cons (pv 9) pa_nil))) pa_nil)))) pa_nil)) (by rfl)) (pss_cons (ps_set (i := 12) sc_73.nd rfl (Or.inl rfl) (pe_ifExp (pt_cmp (pc_isN (pv 5)) rfl) pe_non (pe_df D__law_g_image (hr.mono (by decide)) (by rfl) (pa_cons (pv 1) (pa_cons (pv 5) pa_nil))))) (pss_cons (ps_set (i := 13) sc_73.nd rfl (Or.inl rfl) (pe_ifExp (pt_cmp (pc_isN (pv 12)) rfl) (pe_lst pa_nil) (pe_df D__law_f_sums (hr.mono (by decide)) (by rfl) (pa_cons (pv 10) (pa_cons (pe_ifExp (pt_cmpR op_gt (pe_df D__law_draw (hr.mono (by decide)) (by rfl) (pa_cons (pv 0) (pa_cons pe_int pa_nil))) pe_int (nomark _)) (pv 12) (pe_op op_plus (pv 11) (pe_lst (pa_cons pe_int pa_nil)))) pa_nil))))) (pss_cons (ps_set (i := 14) sc_73.nd rfl (Or.inl rfl) (pe_ifExp (PW.pt (pw_or (pt_cmp (pc_isN (pv 12)) rfl) (pw_or1 (pt_cmpR (op_eqs hr.units) (pe_df D__law_draw (hr.mono (by decide)) (by rfl) (pa_cons (pv 0) (pa_cons pe_int pa_nil))) pe_int (nomark _))))) (pe_tup (pa_cons pe_str (pa_cons (pv 11) pa_nil))) (pe_tup (pa_cons pe_str (pa_cons (pe_op op_plus (pe_op op_plus (pe_op op_plus (pv 13) (pe_df D__law_f_sums (hr.mono (by decide)) (by rfl) (pa_cons (pv 10) (pa_cons (pv 11) pa_nil)))) (pe_lst (pa_cons (pe_callB cr_len (by rfl) m_len (by decide +kernel) (pa_cons (pv 11) pa_nil)) pa_nil))) (pv 11)) pa_nil))))) (pss_cons (ps_set (i := 15) sc_73.nd rfl (Or.inl rfl) (pe_tup (pa_cons pe_str (pa_cons (pv 14) (pa_cons pe_non pa_nil))))) (pss_cons (ps_set (i := 15) sc_73.nd rfl (Or.inl rfl) (pe_ifExp (PW.pt (pw_or (pt_cmpR op_lt (pv 8) pe_int (nomark _)) (pw_or1 (PW.pt (pw_and (pt_cmp (pc_isN (pv 5)) rfl) (pw_and1 (pt_cmpR op_gt (pe_df D__law_draw (hr.mono (by decide)) (by rfl) (pa_cons (pv 0) (pa_cons pe_int pa_nil))) pe_int (nomark _)))))))) (pe_tup (pa_cons pe_str (pa_cons pe_non pa_nil))) (pe_ifExp (pt_cmpR op_lt (pv 8) pe_int (nomark _)) (pe_tup (pa_cons pe_str (pa_cons pe_non pa_nil))) (pe_ifExp (pt_cmpR (op_eqs hr.units) (pv 8) pe_int (nomark _)) (pe_tup (pa_cons pe_str (pa_cons pe_non pa_nil))) (pv 15))))) (pss_cons (ps_set (i := 16) sc_73.nd rfl (Or.inl rfl) (pe_df D__law_g_ops (hr.mono (by decide)) (by rfl) (pa_cons (pv 1) (pa_cons (pv 5) (pa_cons (pv 15) pa_nil))))) (pss_cons (ps_if (PW.pt (pw_and (pt_cmpR (op_nes hr.units) (pe_ix ix_seq (pv 16) pe_int (fun _ _ => rfl)) pe_str (nomark _)) (pw_and (pt_cmpR (op_nes hr.units) (pe_ix ix_seq (pv 16) pe_int (fun _ _ => rfl)) (pe_lst pa_nil) (nomark _)) (pw_and1 (pt_cmpR (op_eqs hr.units) (pe_df D__law_draw (hr.mono (by decide)) (by rfl) (pa_cons (pv 0) (pa_cons pe_int pa_nil))) pe_int (nomark _)))))) (pss_cons (ps_par (i := 17) (j := 18) (by rfl) sc_73.nd rfl rfl (by decide) rfl rfl (pa_cons (pe_df D__law_draw (hr.mono (by decide)) (by rfl) (pa_cons (pv 0) (pa_cons (pe_callB cr_len (by rfl) m_len (by decide +kernel) (pa_cons (pe_ix ix_seq (pv 16) pe_int (fun _ _ => rfl)) pa_nil)) pa_nil))) (pa_cons (pe_ix ix_seq (pv 1) pe_int (fun _ _ => rfl)) pa_nil)) (by rfl)) (pss_cons (ps_for PassesOwn.never rfl (pi_lt (pe_slice sl_all (pe_ix ix_seq (pv 16) pe_int (fun _ _ => rfl)) po_none (po_some (pv 17)))) (pg_name (i := 19) sc_73.nd rfl (Or.inl rfl)) (pss_one (ps_set (i := 18) sc_73.nd rfl (Or.inl rfl) (pe_df D__law_f_done (hr.mono (by decide)) (by rfl) (pa_cons (pv 18) (pa_cons (pv 19) pa_nil)))))) (pss_one (ps_set (i := 15) sc_73.nd rfl (Or.inl rfl) (pe_op op_plus (pe_slice sl_all (pv 15) po_none (po_some (pe_un un_neg pe_int))) (pe_tup (pa_cons (pe_tup (pa_cons (pv 17) (pa_cons (pe_df D__law_f_torn (hr.mono (by decide)) (by rfl) (pa_cons (pv 0) (pa_cons (pv 18) (pa_cons (pe_ix ix_seq (pe_ix ix_seq (pv 16) pe_int (fun _ _ => rfl)) (pv 17) (fun _ _ => rfl)) pa_nil)))) pa_nil))) pa_nil))))))) (pss_one (ps_if (pt_cmpR (op_eqs hr.units) (pe_df D__law_draw (hr.mono (by decide)) (by rfl) (pa_cons (pv 0) (pa_cons pe_int pa_nil))) pe_int (nomark _)) (pss_one (ps_set (i := 15) sc_73.nd rfl (Or.inl rfl) (pe_op op_plus (pe_slice sl_all (pv 15) po_none (po_some (pe_un un_neg pe_int))) (pe_tup (pa_cons (pe_tup (pa_cons (pe_df D__law_draw (hr.mono (by decide)) (by rfl) (pa_cons (pv 0) (pa_cons pe_int pa_nil))) (pa_cons (pe_lst (pa_cons (pe_df D__law_draw (hr.mono (by decide)) (by rfl) (pa_cons (pv 0) (pa_cons pe_int pa_nil))) pa_nil)) pa_nil))) pa_nil))))) pss_nil))) (pss_cons (ps_set (i := 20) sc_73.nd rfl (Or.inl rfl) (pe_df D__law_g_step (hr.mono (by decide)) (by rfl) (pa_cons (pv 1) (pa_cons (pv 5) (pa_cons (pv 15) pa_nil))))) (pss_cons (ps_expr (pe_bm PySem.F.plainAttrs_list PySem.F.slot_list_append PySem.F.type_list_append mt_append (pv 3) (pa_cons (pv 15) pa_nil))) (pss_cons (ps_expr (pe_bm PySem.F.plainAttrs_list PySem.F.slot_list_append PySem.F.type_list_append mt_append (pv 4) (pa_cons (pv 20) pa_nil))) (pss_one (ps_asg (pe_ifExp (pt_cmpR (op_eqs hr.units) (pe_ix ix_seq (pv 20) pe_int (fun _ _ => rfl)) pe_str (nomark _)) (pe_tup (pa_cons (pe_ix ix_seq (pv 20) pe_int (fun _ _ => rfl)) (pa_cons (pe_ix ix_seq (pv 20) pe_int (fun _ _ => rfl)) pa_nil))) (pe_tup (pa_cons (pv 1) (pa_cons (pv 5) pa_nil)))) (pg_or (pg_tup rfl (pgs_cons (pg_name (i := 1) sc_73.nd rfl (Or.inl rfl)) (pgs_cons (pg_name (i := 5) sc_73.nd rfl (Or.inl rfl)) pgs_nil))) (pg_lst rfl (pgs_cons (pg_name (i := 1) sc_73.nd rfl (Or.inl rfl)) (pgs_cons (pg_name (i := 5) sc_73.nd rfl (Or.inl rfl)) pgs_nil)))))))))))))))))))) (pss_one (ps_ret (pe_tup (pa_cons (pv 3) (pa_cons (pv 4) pa_nil))))))), (rs_seq (rs_asg [false, false, false, false, false, false, false, false, false, false, false, false, false, false, false, false, false, false, false, false, false] (re_tup (ra_cons (re_lst ra_nil) (ra_cons (re_lst ra_nil) (ra_cons re_non (ra_cons (re_int 0) ra_nil))))) (rgo_seq (rgos_cons (rgo_name 3) (rgos_cons (rgo_name 4) (rgos_cons (rgo_name 5) (rgos_cons (rgo_name 6) rgos_nil)))))) (rs_seq (rs_forR [false, false, true, false, false, false, false, false, false, false, false, false, false, false, false, false, false, false, false, false, false] (ri0_rng1 (ra_cons (re_var 2) ra_nil)) (rgo_name 7) (rs_seq (rs_par 8 6 [true, false, false, false, false, false, true, false, false, false, false, false, false, false, false, false, false, false, false, false, false] (ra_cons (re_call (ra_cons (re_var 0) (ra_cons (re_int 9) ra_nil))) (ra_cons (re_op opd_plus (re_var 6) (re_int 1)) ra_nil))) (rs_seq (rs_set 9 [true, false, false, false, false, false, true, false, false, false, false, false, false, false, false, false, false, false, false, false, false] (re_if (rt_test (re_op opd_eq (re_call (ra_cons (re_var 0) (ra_cons (re_int 6) ra_nil))) (re_int 0))) (re_call (ra_cons (re_var 0) (ra_cons (re_op opd_plus (re_var 6) (re_int 1)) ra_nil))) (re_op opd_plus (re_var 6) (re_call (ra_cons (re_var 0) (ra_cons (re_int 2) ra_nil)))))) (rs_seq (rs_par 10 11 [true, true, false, false, false, false, false, false, false, true, false, false, false, false, false, false, false, false, false, false, false] (ra_cons (re_op opd_ix (re_op opd_ix (re_var 1) (re_int 1)) (re_int 0)) (ra_cons (re_call (ra_cons (re_var 0) (ra_cons (re_op opd_ix (re_op opd_ix (re_var 1) (re_int 1)) (re_int 0)) (ra_cons (re_cb cbd_min (ra_cons (re_op opd_i0 (re_call (ra_cons (re_op opd_ix (re_op opd_ix (re_var 1) (re_int 1)) (re_int 0)) ra_nil)) (re_int 1)) (ra_cons (re_var 9) ra_nil))) ra_nil)))) ra_nil))) (rs_seq (rs_set 12 [false, true, false, false, false, true, false, false, false, false, false, false, false, false, false, false, false, false, false, false, false] (re_if (rt_b (re_isN (re_var 5))) re_non (re_call (ra_cons (re_var 1) (ra_cons (re_var 5) ra_nil))))) (rs_seq (rs_set 13 [true, false, false, false, false, false, false, false, false, false, true, true, true, false, false, false, false, false, false, false, false] (re_if (rt_b (re_isN (re_var 12))) (re_lst ra_nil) (re_call (ra_cons (re_var 10) (ra_cons (re_if (rt_test (re_op opd_b0 (re_call (ra_cons (re_var 0) (ra_cons (re_int 5) ra_nil))) (re_int 0))) (re_var 12) (re_op opd_plus (re_var 11) (re_lst (ra_cons (re_int 1) ra_nil)))) ra_nil))))) (rs_seq (rs_set 14 [true, false, false, false, false, false, false, false, false, false, true, true, true, true, false, false, false, false, false, false, false] (re_if (rt_or (rt_b (re_isN (re_var 12))) (rt_test (re_op opd_eq (re_call (ra_cons (re_var 0) (ra_cons (re_int 2) ra_nil))) (re_int 0)))) (re_tup (ra_cons (re_str "image") (ra_cons (re_var 11) ra_nil))) (re_tup (ra_cons (re_str "patch") (ra_cons (re_op opd_plus (re_op opd_plus (re_op opd_plus (re_var 13) (re_call (ra_cons (re_var 10) (ra_cons (re_var 11) ra_nil)))) (re_lst (ra_cons (re_cb cbd_len (ra_cons (re_var 11) ra_nil)) ra_nil))) (re_var 11)) ra_nil))))) (rs_seq (rs_set 15 [false, false, false, false, false, false, false, false, false, false, false, false, false, false, true, false, false, false, false, false, false] (re_tup (ra_cons (re_str "update") (ra_cons (re_var 14) (ra_cons re_non ra_nil))))) (rs_seq (rs_set 15 [true, false, false, false, false, true, false, false, true, false, false, false, false, false, false, true, false, false, false, false, false] (re_if (rt_or (rt_test (re_op opd_b0 (re_var 8) (re_int 3))) (rt_and (rt_b (re_isN (re_var 5))) (rt_test (re_op opd_b0 (re_call (ra_cons (re_var 0) (ra_cons (re_int 6) ra_nil))) (re_int 0))))) (re_tup (ra_cons (re_str "start") (ra_cons re_non ra_nil))) (re_if (rt_test (re_op opd_b0 (re_var 8) (re_int 5))) (re_tup (ra_cons (re_str "confirm") (ra_cons re_non ra_nil))) (re_if (rt_test (re_op opd_eq (re_var 8) (re_int 5))) (re_tup (ra_cons (re_str "back") (ra_cons re_non ra_nil))) (re_var 15))))) (rs_seq (rs_set 16 [false, true, false, false, false, true, false, false, false, false, false, false, false, false, false, true, false, false, false, false, false] (re_call (ra_cons (re_var 1) (ra_cons (re_var 5) (ra_cons (re_var 15) ra_nil))))) (rs_seq (rs_if [true, false, false, false, false, false, false, false, false, false, false, false, false, false, false, false, true, false, false, false, false] (rt_and (rt_test (re_op opd_ne (re_op opd_ix (re_var 16) (re_int 0)) (re_str "refused"))) (rt_and (rt_test (re_op opd_ne (re_op opd_ix (re_var 16) (re_int 0)) (re_lst ra_nil))) (rt_test (re_op opd_eq (re_call (ra_cons (re_var 0) (ra_cons (re_int 3) ra_nil))) (re_int 0))))) (rs_seq (rs_par 17 18 [true, true, false, false, false, false, false, false, false, false, false, false, false, false, false, false, true, false, false, false, false] (ra_cons (re_call (ra_cons (re_var 0) (ra_cons (re_cb cbd_len (ra_cons (re_op opd_ix (re_var 16) (re_int 0)) ra_nil)) ra_nil))) (ra_cons (re_op opd_ix (re_var 1) (re_int 1)) ra_nil))) (rs_seq (rs_for [false, false, false, false, false, false, false, false, false, false, false, false, false, false, false, false, true, true, false, false, false] (ri_lt (re_sl (re_op opd_ix (re_var 16) (re_int 0)) ro_none (ro_some (re_var 17)))) (rgo_name 19) (rs_set 18 [false, false, false, false, false, false, false, false, false, false, false, false, false, false, false, false, false, false, true, true, false] (re_call (ra_cons (re_var 18) (ra_cons (re_var 19) ra_nil))))) (rs_set 15 [true, false, false, false, false, false, false, false, false, false, false, false, false, false, false, true, true, true, true, false, false] (re_op opd_plus (re_sl (re_var 15) ro_none (ro_some (re_un und_i (re_int 1)))) (re_tup (ra_cons (re_tup (ra_cons (re_var 17) (ra_cons (re_call (ra_cons (re_var 0) (ra_cons (re_var 18) (ra_cons (re_op opd_ix (re_op opd_ix (re_var 16) (re_int 0)) (re_var 17)) ra_nil)))) ra_nil))) ra_nil)))))) (rs_if [true, false, false, false, false, false, false, false, false, false, false, false, false, false, false, false, false, false, false, false, false] (rt_test (re_op opd_eq (re_call (ra_cons (re_var 0) (ra_cons (re_int 20) ra_nil))) (re_int 0))) (rs_set 15 [true, false, false, false, false, false, false, false, false, false, false, false, false, false, false, true, false, false, false, false, false] (re_op opd_plus (re_sl (re_var 15) ro_none (ro_some (re_un und_i (re_int 1)))) (re_tup (ra_cons (re_tup (ra_cons (re_call (ra_cons (re_var 0) (ra_cons (re_int 4) ra_nil))) (ra_cons (re_lst (ra_cons (re_call (ra_cons (re_var 0) (ra_cons (re_int 4) ra_nil))) ra_nil)) ra_nil))) ra_nil)))) rs_next)) (rs_seq (rs_set 20 [false, true, false, false, false, true, false, false, false, false, false, false, false, false, false, true, false, false, false, false, false] (re_call (ra_cons (re_var 1) (ra_cons (re_var 5) (ra_cons (re_var 15) ra_nil))))) (rs_seq (rs_app 3 [false, false, false, false, false, false, false, false, false, false, false, false, false, false, false, true, false, false, false, false, false] (re_var 15)) (rs_seq (rs_app 4 [false, false, false, false, false, false, false, false, false, false, false, false, false, false, false, false, false, false, false, false, true] (re_var 20)) (rs_asg [false, true, false, false, false, true, false, false, false, false, false, false, false, false, false, false, false, false, false, false, true] (re_if (rt_test (re_op opd_eq (re_op opd_ix (re_var 20) (re_int 0)) (re_str "done"))) (re_tup (ra_cons (re_op opd_ix (re_var 20) (re_int 2)) (ra_cons (re_op opd_ix (re_var 20) (re_int 3)) ra_nil))) (re_tup (ra_cons (re_var 1) (ra_cons (re_var 5) ra_nil)))) (rgo_seq (rgos_cons (rgo_name 1) (rgos_cons (rgo_name 5) rgos_nil)))))))))))))))))) (rs_ret [false, false, false, true, true, false, false, false, false, false, false, false, false, false, false, false, false, false, false, false, false] (re_tup (ra_cons (re_var 3) (ra_cons (re_var 4) ra_nil))))))⟩) (fun _ _ _ _ _ h => h)
/-- _law_g_ring -/
def b_74 : DS := (dSeq (dSet 1 [true, false, false, false, false] (dCall 2 f_47 (dCons (dVar 0) (dCons (dLst (dCons (dC (.int 4)) (dCons (dC (.int 5)) (dCons (dC (.int 6)) (dCons (dC (.int 8)) dNil))))) dNil)))) (dSeq (dPar 2 3 [true, false, false, false, false] (dCons (dCall 2 f_47 (dCons (dVar 0) (dCons (dLst (dCons (dC (.int 3)) (dCons (dC (.int 4)) (dCons (dC (.int 5)) (dCons (dC (.int 8)) dNil))))) dNil))) (dCons (dOp dPlus (dC (.int 2)) (dCall 2 fDraw (dCons (dVar 0) (dCons (dC (.int 4)) dNil)))) dNil))) (dSeq (dSet 4 [true, true, false, false, false] (dCall 3 f_65 (dCons (dVar 0) (dCons (dVar 1) (dCons (dC (.int 0)) dNil))))) (dRet [true, true, true, true, true] (dCall 5 f_68 (dCons (dVar 1) (dCons (dVar 2) (dCons (dOp dPlus (dCB dMaxB (dCons (dC (.int 2)) (dCons (dCB dInt (dCons (dOp (dI CDiv fun i j => .int (i / j)) (dOp dPlus (dOp dPlus (dCB dLen (dCons (dVar 4) dNil)) (dC (.int 3))) (dVar 2)) (dVar 2)) dNil)) dNil))) (dCall 2 fDraw (dCons (dVar 0) (dCons (dC (.int 2)) dNil)))) (dCons (dVar 3) (dCons (dVar 4) dNil))))))))))
def f_74 : DF := fun ds n q => b_74 (endD q) (startD ["stream", "width", "block", "count", "image"] ds) n
theorem sc_74 : FnScope ["stream", "width", "block", "count", "image"] ["stream"] (defScope (top 74)) := ⟨rfl, rfl, rfl, by decide, rfl, by decide +kernel, by decide +kernel⟩
theorem ok_74 {f : Addr} {fd : FuncData} (F : Fun K "_law_g_ring" "_law_g_ring" (top 74) f fd) (D__law_pick : Df P w K mg base "_law_pick" 2 ["stream", "things"] (spD 2 f_47)) (D__law_draw : Df P w K mg base "_law_draw" 1 ["stream", "many"] (spD 2 fDraw)) (D__law_g_drawn_image : Df P w K mg base "_law_g_drawn_image" 2 ["stream", "width", "version"] (spD 3 f_65)) (D__law_g_fresh : Df P w K mg base "_law_g_fresh" 3 ["width", "block", "blocks", "count", "image"] (spD 5 f_68))  (m_int : mg "int" = none) (m_len : mg "len" = none) (m_max : mg "max" = none) : FnOk P w K mg base CX0 4 f fd ["stream"] (spD 1 f_74) :=
  fn_data (k := 3) (fb := b_74) F sc_74 rfl (fun cdv A outer s0 H E hr => ⟨_, (pss_cons (ps_set (i := 1) sc_74.nd rfl (Or.inl rfl) (pe_df D__law_pick (hr.mono (by decide)) (by rfl) (pa_cons (pv 0) (pa_cons (pe_lst (pa_cons pe_int (pa_cons pe_int (pa_cons pe_int (pa_cons pe_int pa_nil))))) pa_nil)))) (pss_cons (ps_par (i := 2) (j := 3) (by rfl) sc_74.nd rfl rfl (by decide) rfl rfl (pa_cons (pe_df D__law_pick (hr.mono (by decide)) (by rfl) (pa_cons (pv 0) (pa_cons (pe_lst (pa_cons pe_int (pa_cons pe_int (pa_cons pe_int (pa_cons pe_int pa_nil))))) pa_nil))) (pa_cons (pe_op op_plus pe_int (pe_df D__law_draw (hr.mono (by decide)) (by rfl) (pa_cons (pv 0) (pa_cons pe_int pa_nil)))) pa_nil)) (by rfl)) (pss_cons (ps_set (i := 4) sc_74.nd rfl (Or.inl rfl) (pe_df D__law_g_drawn_image (hr.mono (by decide)) (by rfl) (pa_cons (pv 0) (pa_cons (pv 1) (pa_cons pe_int pa_nil))))) (pss_one (ps_ret (pe_df D__law_g_fresh (hr.mono (by decide)) (by rfl) (pa_cons (pv 1) (pa_cons (pv 2) (pa_cons (pe_op op_plus (pe_callB (cr_maxB rfl) (by rfl) m_max (by decide +kernel) (pa_cons pe_int (pa_cons (pe_callTy call_int1 (by rfl) m_int (by decide +kernel) (pa_cons (pe_op op_fdiv (pe_op op_plus (pe_op op_plus (pe_callB cr_len (by rfl) m_len (by decide +kernel) (pa_cons (pv 4) pa_nil)) pe_int) (pv 2)) (pv 2)) pa_nil)) pa_nil))) (pe_df D__law_draw (hr.mono (by decide)) (by rfl) (pa_cons (pv 0) (pa_cons pe_int pa_nil)))) (pa_cons (pv 3) (pa_cons (pv 4) pa_nil))))))))))), (rs_seq (rs_set 1 [true, false, false, false, false] (re_call (ra_cons (re_var 0) (ra_cons (re_lst (ra_cons (re_int 4) (ra_cons (re_int 5) (ra_cons (re_int 6) (ra_cons (re_int 8) ra_nil))))) ra_nil)))) (rs_seq (rs_par 2 3 [true, false, false, false, false] (ra_cons (re_call (ra_cons (re_var 0) (ra_cons (re_lst (ra_cons (re_int 3) (ra_cons (re_int 4) (ra_cons (re_int 5) (ra_cons (re_int 8) ra_nil))))) ra_nil))) (ra_cons (re_op opd_plus (re_int 2) (re_call (ra_cons (re_var 0) (ra_cons (re_int 4) ra_nil)))) ra_nil))) (rs_seq (rs_set 4 [true, true, false, false, false] (re_call (ra_cons (re_var 0) (ra_cons (re_var 1) (ra_cons (re_int 0) ra_nil))))) (rs_ret [true, true, true, true, true] (re_call (ra_cons (re_var 1) (ra_cons (re_var 2) (ra_cons (re_op opd_plus (re_cb cbd_maxB (ra_cons (re_int 2) (ra_cons (re_cb cbd_int (ra_cons (re_op opd_i (re_op opd_plus (re_op opd_plus (re_cb cbd_len (ra_cons (re_var 4) ra_nil)) (re_int 3)) (re_var 2)) (re_var 2)) ra_nil)) ra_nil))) (re_call (ra_cons (re_var 0) (ra_cons (re_int 2) ra_nil)))) (ra_cons (re_var 3) (ra_cons (re_var 4) ra_nil))))))))))⟩) (fun _ _ _ _ _ h => h)
end
end M4
set_option Elab.async false
set_option linter.all false
set_option maxRecDepth 100000
set_option maxHeartbeats 4000000
/-! _law_copied, _law_loose by data -/
namespace M4
open PySem PySem.Spec PyProof.Rows L2 LiI RZ DL
open PySem.W hiding Dat
open N4 (top fDraw fMixed fSame dpD dpDs fitD fitDs)
theorem x_I {C : Int → Int → Prop} {g : Int → Int → Dat} {i j : Int} {R : Dat → Prop} : dI C g (.int i) (.int j) R = (C i j ∧ R (g i j)) := rfl
theorem x_I0 {g : Int → Int → Dat} {i j : Int} {R : Dat → Prop} : dI0 g (.int i) (.int j) R = R (g i j) := rfl
theorem x_U {g : Int → Dat} {i : Int} {R : Dat → Prop} : dU g (.int i) R = R (g i) := rfl
theorem x_plus1 {i j : Int} {R : Dat → Prop} : dPlus (.int i) (.int j) R = R (.int (i + j)) := rfl
theorem x_plus2 {i j : Str} {R : Dat → Prop} : dPlus (.str i) (.str j) R = (i.length + j.length ≤ sizeLine ∧ R (.str (i ++ j))) := rfl
theorem x_plus3 {l m : List Dat} {R : Dat → Prop} : dPlus (.lst l) (.lst m) R = (l.length + m.length ≤ sizeLine ∧ R (.own (l ++ m))) := rfl
theorem x_plus4 {l m : List Dat} {R : Dat → Prop} : dPlus (.tup l) (.tup m) R = (l.length + m.length ≤ sizeLine ∧ R (.tup (l ++ m))) := rfl
theorem x_times1 {i j : Int} {R : Dat → Prop} : dTimes (.int i) (.int j) R = (CMul i j ∧ R (.int (i * j))) := rfl
theorem x_times2 {l : List Dat} {k : Int} {R : Dat → Prop} : dTimes (.lst l) (.int k) R = ((-(2 ^ 63) ≤ k ∧ k < 2 ^ 63 ∧ l.length * k.toNat ≤ sizeLine) ∧ R (.own (List.replicate k.toNat l).flatten)) := rfl
theorem x_ix1 {l : List Dat} {i : Int} {R : Dat → Prop} : dIx (.lst l) (.int i) R = ∃ d, atI l i = some d ∧ R d := rfl
theorem x_ix2 {l : List Dat} {i : Int} {R : Dat → Prop} : dIx (.tup l) (.int i) R = ∃ d, atI l i = some d ∧ R d := rfl
theorem x_sl1 {l : List Dat} {a b : Option Int} {R : Dat → Prop} : dSlR (.lst l) a b R = R (.own (DL.cutD l a b)) := rfl
theorem x_sl2 {l : List Dat} {a b : Option Int} {R : Dat → Prop} : dSlR (.tup l) a b R = R (.tup (DL.cutD l a b)) := rfl
theorem x_tr_non : Dat.non.truth = some false := rfl
theorem x_tr_bl {b : Bool} : (Dat.bl b).truth = some b := rfl
theorem x_tr_int {i : Int} : (DL.Dat.int i).truth = some (i != 0) := rfl
theorem x_tr_lst {l : List Dat} : (Dat.lst l).truth = some (!l.isEmpty) := rfl
theorem x_tr_tup {l : List Dat} : (Dat.tup l).truth = some (!l.isEmpty) := rfl
theorem x_tr_own {l : List Dat} : (Dat.own l).truth = some (!l.isEmpty) := rfl
theorem x_it_lst {l : List Dat} : (Dat.lst l).items = some l := rfl
theorem x_it_tup {l : List Dat} : (Dat.tup l).items = some l := rfl
theorem x_it_own {l : List Dat} : (Dat.own l).items = some l := rfl
theorem x_ty_non : tyD (DL.Dat.non) = some "NoneType" := rfl
theorem x_ty_bl {a : Bool} : tyD (DL.Dat.bl a) = some "bool" := rfl
theorem x_nn_bl {a : Bool} : (DL.Dat.bl a).isNon = false := rfl
theorem x_ty_int {a : Int} : tyD (DL.Dat.int a) = some "int" := rfl
theorem x_nn_int {a : Int} : (DL.Dat.int a).isNon = false := rfl
theorem x_ty_str {a : Str} : tyD (DL.Dat.str a) = some "str" := rfl
theorem x_nn_str {a : Str} : (DL.Dat.str a).isNon = false := rfl
theorem x_ty_lst {a : List Dat} : tyD (DL.Dat.lst a) = some "list" := rfl
theorem x_nn_lst {a : List Dat} : (DL.Dat.lst a).isNon = false := rfl
theorem x_ty_own {a : List Dat} : tyD (DL.Dat.own a) = some "list" := rfl
theorem x_nn_own {a : List Dat} : (DL.Dat.own a).isNon = false := rfl
theorem x_ty_tup {a : List Dat} : tyD (DL.Dat.tup a) = some "tuple" := rfl
theorem x_nn_tup {a : List Dat} : (DL.Dat.tup a).isNon = false := rfl
theorem x_ty_strm : tyD (DL.Dat.strm) = some "list" := rfl
theorem x_nn_strm : (DL.Dat.strm).isNon = false := rfl
theorem x_nn_non : Dat.non.isNon = true := rfl
theorem x_len1 {l : List Dat} {R : Dat → Prop} : dLen [.lst l] R = R (.int l.length) := rfl
theorem x_len2 {l : List Dat} {R : Dat → Prop} : dLen [.tup l] R = R (.int l.length) := rfl
theorem x_int1 {i : Int} {R : Dat → Prop} : dInt [.int i] R = R (.int i) := rfl
theorem x_abs {i : Int} {R : Dat → Prop} : dAbs [.int i] R = R (.int (if i < 0 then -i else i)) := rfl
theorem x_tup1 {l : List Dat} {R : Dat → Prop} : dTuple [.lst l] R = R (.tup l) := rfl
theorem x_tup2 {l : List Dat} {R : Dat → Prop} : dTuple [.tup l] R = R (.tup l) := rfl
theorem x_list1 {l : List Dat} {R : Dat → Prop} : dList [.lst l] R = R (.own l) := rfl
theorem x_list2 {l : List Dat} {R : Dat → Prop} : dList [.tup l] R = R (.own l) := rfl
theorem x_max1 {i j : Int} {R : Dat → Prop} : dMaxB [.int i, .int j] R = R (.int (if j > i then j else i)) := rfl
theorem x_max2 {l : List Dat} {R : Dat → Prop} : dMaxB [.lst l] R = ∃ ns : List Int, l = ns.map DL.Dat.int ∧ 0 < ns.length ∧ ∀ m, m ∈ ns → (∀ y, y ∈ ns → y ≤ m) → R (.int m) := rfl
theorem x_max3 {l : List Dat} {R : Dat → Prop} : dMaxB [.tup l] R = ∃ ns : List Int, l = ns.map DL.Dat.int ∧ 0 < ns.length ∧ ∀ m, m ∈ ns → (∀ y, y ∈ ns → y ≤ m) → R (.int m) := rfl
theorem x_min1 {i j : Int} {R : Dat → Prop} : dMin [.int i, .int j] R = R (.int (if j < i then j else i)) := rfl
theorem x_all {l : List Dat} {R : Dat → Prop} : dAll [.lst l] R = ∃ bs : List Bool, l = bs.map Dat.bl ∧ R (.bl (bs.all id)) := rfl
theorem x_any {l : List Dat} {R : Dat → Prop} : dAny [.lst l] R = ∃ bs : List Bool, l = bs.map Dat.bl ∧ R (.bl (bs.any id)) := rfl
theorem x_sum {l : List Dat} {R : Dat → Prop} : dSum [.lst l] R = ∃ ns : List Int, l = ns.map DL.Dat.int ∧ R (.int ns.sum) := rfl
theorem x_gtup {k : Nat} {f : DGs} {D : DSt} {R : DSt → Prop} {l : List Dat} : dgTup k f (.tup l) D R = (l.length = k ∧ f l D R) := rfl
theorem x_gseq0 {k : Nat} {f : DGs} {D : DSt} {R : DSt → Prop} {l : List Dat} : dgSeq k f (.tup l) D R = (l.length = k ∧ f l D R) := rfl
theorem x_gseq1 {k : Nat} {f : DGs} {D : DSt} {R : DSt → Prop} {l : List Dat} : dgSeq k f (.lst l) D R = (l.length = k ∧ f l D R) := rfl
theorem x_gseq2 {k : Nat} {f : DGs} {D : DSt} {R : DSt → Prop} {l : List Dat} : dgSeq k f (.own l) D R = (l.length = k ∧ f l D R) := rfl
theorem x_gcons {f : DG} {g : DGs} {d : Dat} {l : List Dat} {D : DSt} {R : DSt → Prop} : dgCons f g (d :: l) D R = f d D fun D1 => g l D1 R := rfl
theorem x_gnil {D : DSt} {R : DSt → Prop} : dgNil [] D R = R D := rfl
theorem x_Eq_int {i j : Int} {R : Dat → Prop} : dEq (.int i) (.int j) R = R (.bl (decide (i = j))) := rfl
theorem x_Eq_str {i j : Str} {R : Dat → Prop} : dEq (.str i) (.str j) R = R (.bl (decide (i = j))) := rfl
theorem x_Eq_bl {i j : Bool} {R : Dat → Prop} : dEq (.bl i) (.bl j) R = R (.bl (decide (i = j))) := rfl
theorem x_Ne_int {i j : Int} {R : Dat → Prop} : dNe (.int i) (.int j) R = R (.bl (!decide (i = j))) := rfl
theorem x_Ne_str {i j : Str} {R : Dat → Prop} : dNe (.str i) (.str j) R = R (.bl (!decide (i = j))) := rfl
theorem x_Ne_bl {i j : Bool} {R : Dat → Prop} : dNe (.bl i) (.bl j) R = R (.bl (!decide (i = j))) := rfl
theorem x_sz0 : (0 ≤ sizeLine) = True := eq_true (by decide)
theorem x_sz1 : (1 ≤ sizeLine) = True := eq_true (by decide)
theorem x_sz2 : (2 ≤ sizeLine) = True := eq_true (by decide)
theorem x_sz3 : (3 ≤ sizeLine) = True := eq_true (by decide)
theorem x_sz4 : (4 ≤ sizeLine) = True := eq_true (by decide)
theorem x_sz5 : (5 ≤ sizeLine) = True := eq_true (by decide)
theorem x_sz6 : (6 ≤ sizeLine) = True := eq_true (by decide)
theorem x_sz7 : (7 ≤ sizeLine) = True := eq_true (by decide)
theorem x_sz8 : (8 ≤ sizeLine) = True := eq_true (by decide)
theorem x_sz9 : (9 ≤ sizeLine) = True := eq_true (by decide)
theorem x_sz10 : (10 ≤ sizeLine) = True := eq_true (by decide)
theorem x_sz11 : (11 ≤ sizeLine) = True := eq_true (by decide)
theorem x_sz12 : (12 ≤ sizeLine) = True := eq_true (by decide)
theorem x_sz13 : (13 ≤ sizeLine) = True := eq_true (by decide)
theorem x_sz14 : (14 ≤ sizeLine) = True := eq_true (by decide)
theorem x_sz15 : (15 ≤ sizeLine) = True := eq_true (by decide)
theorem x_sz16 : (16 ≤ sizeLine) = True := eq_true (by decide)
theorem x_c0 : ((0 : Nat) : Int) = 0 := rfl
theorem x_c1 : ((1 : Nat) : Int) = 1 := rfl
theorem x_c2 : ((2 : Nat) : Int) = 2 := rfl
theorem x_c3 : ((3 : Nat) : Int) = 3 := rfl
theorem x_c4 : ((4 : Nat) : Int) = 4 := rfl
theorem x_c5 : ((5 : Nat) : Int) = 5 := rfl
theorem x_c6 : ((6 : Nat) : Int) = 6 := rfl
theorem x_c7 : ((7 : Nat) : Int) = 7 := rfl
theorem x_c8 : ((8 : Nat) : Int) = 8 := rfl
theorem x_c9 : ((9 : Nat) : Int) = 9 := rfl
theorem x_c10 : ((10 : Nat) : Int) = 10 := rfl
theorem x_c11 : ((11 : Nat) : Int) = 11 := rfl
theorem x_c12 : ((12 : Nat) : Int) = 12 := rfl
theorem x_c13 : ((13 : Nat) : Int) = 13 := rfl
theorem x_c14 : ((14 : Nat) : Int) = 14 := rfl
theorem x_c15 : ((15 : Nat) : Int) = 15 := rfl
theorem x_c16 : ((16 : Nat) : Int) = 16 := rfl
end M4
local macro_rules
  | `(tactic| simp!) => `(tactic| try simp only [and_assoc, DL.dRng3, DL.dEnum, DL.dIn, DL.dNin, DL.dSeq, DL.dSet, DL.dIfS, DL.dRet, DL.dRetV, DL.dRetN, DL.dNext, DL.dNever, DL.dBreak, DL.dCont, DL.dDrop, DL.dPar, DL.dPar3, DL.dAsg, DL.dgName, DL.dTest, DL.dIsi, DL.dIsLT, DL.dIf, DL.dIsN, DL.dNotN, DL.dVar, DL.dCB, DL.dCons, DL.dNil, DL.dTup, DL.dLst, DL.dCall, DL.dC, DL.dNot, DL.dAnd, DL.dOr, DL.dAndV, DL.dOrV, DL.dNotV, DL.dChain, DL.dOp, DL.dUn, DL.atD, DL.dSl, DL.dNoPart, DL.dPart, DL.dTruth, DL.dItems, DL.dRng1, DL.dRng2, DL.dZip, DL.dFor, DL.dForR, DL.dApp, DL.dExt, DL.dSub, DL.dSubSl, DL.dStar, DL.dYes, DL.dLc, DL.wipeD, DL.startD, DL.endD, DL.viewD, DL.settD, DL.aftD, DL.Dat.sh, DL.shs, DL.Dat.clos, DL.closs, DL.isT, String.reduceBEq, String.reduceEq, DL.Dat.bl.injEq, DL.Dat.int.injEq, DL.Dat.lst.injEq, DL.Dat.tup.injEq, DL.Dat.own.injEq, DL.Dat.str.injEq, List.map_cons, List.map_nil, List.length_cons, List.length_nil, List.replicate, List.cons_append, List.nil_append, List.getElem?_cons_zero, List.getElem?_cons_succ, List.set_cons_zero, List.set_cons_succ, Option.map_some, Option.map_none, Option.some.injEq, List.cons.injEq, exists_eq_left', exists_eq_left, exists_eq', exists_and_left, and_true, true_and, and_false, false_and, if_true, if_false, ite_self, ite_true, ite_false, reduceIte, reduceCtorEq, not_true_eq_false, not_false_eq_true, Int.reduceEq, Int.reduceLT, Int.reduceLE, Int.reduceNeg, Int.reduceAdd, Int.reduceSub, Int.reduceMul, Int.reduceToNat, Nat.reduceLT, Nat.reduceLeDiff, Bool.false_eq_true, M4.x_c0, M4.x_c1, M4.x_c2, M4.x_c3, M4.x_c4, M4.x_c5, M4.x_c6, M4.x_c7, M4.x_c8, M4.x_c9, M4.x_c10, M4.x_c11, M4.x_c12, M4.x_c13, M4.x_c14, M4.x_c15, M4.x_c16, decide_eq_true_eq, Bool.not_eq_true', decide_eq_false_iff_not, Int.not_le, Int.not_lt, List.isEmpty_cons, List.isEmpty_nil, M4.x_sz0, M4.x_sz1, M4.x_sz2, M4.x_sz3, M4.x_sz4, M4.x_sz5, M4.x_sz6, M4.x_sz7, M4.x_sz8, M4.x_sz9, M4.x_sz10, M4.x_sz11, M4.x_sz12, M4.x_sz13, M4.x_sz14, M4.x_sz15, M4.x_sz16, Bool.or_false, Bool.false_or, Bool.or_true, Bool.true_or, Bool.and_true, Bool.true_and, Bool.and_false, Bool.false_and, Bool.not_true, Bool.not_false, Nat.reduceSub, Nat.reduceAdd, Nat.reduceEqDiff, Bool.and_self, beq_self_eq_true, false_or, or_false, DL.dCallK, DL.pickL, List.filterMap_cons, List.filterMap_nil, M4.x_I, M4.x_I0, M4.x_U, M4.x_plus1, M4.x_plus2, M4.x_plus3, M4.x_plus4, M4.x_times1, M4.x_times2, M4.x_ix1, M4.x_ix2, M4.x_sl1, M4.x_sl2, M4.x_tr_non, M4.x_tr_bl, M4.x_tr_int, M4.x_tr_lst, M4.x_tr_tup, M4.x_tr_own, M4.x_it_lst, M4.x_it_tup, M4.x_it_own, M4.x_ty_non, M4.x_ty_bl, M4.x_nn_bl, M4.x_ty_int, M4.x_nn_int, M4.x_ty_str, M4.x_nn_str, M4.x_ty_lst, M4.x_nn_lst, M4.x_ty_own, M4.x_nn_own, M4.x_ty_tup, M4.x_nn_tup, M4.x_ty_strm, M4.x_nn_strm, M4.x_nn_non, M4.x_len1, M4.x_len2, M4.x_int1, M4.x_abs, M4.x_tup1, M4.x_tup2, M4.x_list1, M4.x_list2, M4.x_max1, M4.x_max2, M4.x_max3, M4.x_min1, M4.x_all, M4.x_any, M4.x_sum, M4.x_gtup, M4.x_gseq0, M4.x_gseq1, M4.x_gseq2, M4.x_gcons, M4.x_gnil, M4.x_Eq_int, M4.x_Eq_str, M4.x_Eq_bl, M4.x_Ne_int, M4.x_Ne_str, M4.x_Ne_bl])
  | `(tactic| simp! [$xs:simpLemma,*]) => `(tactic| try simp only [$xs,*, and_assoc, DL.dRng3, DL.dEnum, DL.dIn, DL.dNin, DL.dSeq, DL.dSet, DL.dIfS, DL.dRet, DL.dRetV, DL.dRetN, DL.dNext, DL.dNever, DL.dBreak, DL.dCont, DL.dDrop, DL.dPar, DL.dPar3, DL.dAsg, DL.dgName, DL.dTest, DL.dIsi, DL.dIsLT, DL.dIf, DL.dIsN, DL.dNotN, DL.dVar, DL.dCB, DL.dCons, DL.dNil, DL.dTup, DL.dLst, DL.dCall, DL.dC, DL.dNot, DL.dAnd, DL.dOr, DL.dAndV, DL.dOrV, DL.dNotV, DL.dChain, DL.dOp, DL.dUn, DL.atD, DL.dSl, DL.dNoPart, DL.dPart, DL.dTruth, DL.dItems, DL.dRng1, DL.dRng2, DL.dZip, DL.dFor, DL.dForR, DL.dApp, DL.dExt, DL.dSub, DL.dSubSl, DL.dStar, DL.dYes, DL.dLc, DL.wipeD, DL.startD, DL.endD, DL.viewD, DL.settD, DL.aftD, DL.Dat.sh, DL.shs, DL.Dat.clos, DL.closs, DL.isT, String.reduceBEq, String.reduceEq, DL.Dat.bl.injEq, DL.Dat.int.injEq, DL.Dat.lst.injEq, DL.Dat.tup.injEq, DL.Dat.own.injEq, DL.Dat.str.injEq, List.map_cons, List.map_nil, List.length_cons, List.length_nil, List.replicate, List.cons_append, List.nil_append, List.getElem?_cons_zero, List.getElem?_cons_succ, List.set_cons_zero, List.set_cons_succ, Option.map_some, Option.map_none, Option.some.injEq, List.cons.injEq, exists_eq_left', exists_eq_left, exists_eq', exists_and_left, and_true, true_and, and_false, false_and, if_true, if_false, ite_self, ite_true, ite_false, reduceIte, reduceCtorEq, not_true_eq_false, not_false_eq_true, Int.reduceEq, Int.reduceLT, Int.reduceLE, Int.reduceNeg, Int.reduceAdd, Int.reduceSub, Int.reduceMul, Int.reduceToNat, Nat.reduceLT, Nat.reduceLeDiff, Bool.false_eq_true, M4.x_c0, M4.x_c1, M4.x_c2, M4.x_c3, M4.x_c4, M4.x_c5, M4.x_c6, M4.x_c7, M4.x_c8, M4.x_c9, M4.x_c10, M4.x_c11, M4.x_c12, M4.x_c13, M4.x_c14, M4.x_c15, M4.x_c16, decide_eq_true_eq, Bool.not_eq_true', decide_eq_false_iff_not, Int.not_le, Int.not_lt, List.isEmpty_cons, List.isEmpty_nil, M4.x_sz0, M4.x_sz1, M4.x_sz2, M4.x_sz3, M4.x_sz4, M4.x_sz5, M4.x_sz6, M4.x_sz7, M4.x_sz8, M4.x_sz9, M4.x_sz10, M4.x_sz11, M4.x_sz12, M4.x_sz13, M4.x_sz14, M4.x_sz15, M4.x_sz16, Bool.or_false, Bool.false_or, Bool.or_true, Bool.true_or, Bool.and_true, Bool.true_and, Bool.and_false, Bool.false_and, Bool.not_true, Bool.not_false, Nat.reduceSub, Nat.reduceAdd, Nat.reduceEqDiff, Bool.and_self, beq_self_eq_true, false_or, or_false, DL.dCallK, DL.pickL, List.filterMap_cons, List.filterMap_nil, M4.x_I, M4.x_I0, M4.x_U, M4.x_plus1, M4.x_plus2, M4.x_plus3, M4.x_plus4, M4.x_times1, M4.x_times2, M4.x_ix1, M4.x_ix2, M4.x_sl1, M4.x_sl2, M4.x_tr_non, M4.x_tr_bl, M4.x_tr_int, M4.x_tr_lst, M4.x_tr_tup, M4.x_tr_own, M4.x_it_lst, M4.x_it_tup, M4.x_it_own, M4.x_ty_non, M4.x_ty_bl, M4.x_nn_bl, M4.x_ty_int, M4.x_nn_int, M4.x_ty_str, M4.x_nn_str, M4.x_ty_lst, M4.x_nn_lst, M4.x_ty_own, M4.x_nn_own, M4.x_ty_tup, M4.x_nn_tup, M4.x_ty_strm, M4.x_nn_strm, M4.x_nn_non, M4.x_len1, M4.x_len2, M4.x_int1, M4.x_abs, M4.x_tup1, M4.x_tup2, M4.x_list1, M4.x_list2, M4.x_max1, M4.x_max2, M4.x_max3, M4.x_min1, M4.x_all, M4.x_any, M4.x_sum, M4.x_gtup, M4.x_gseq0, M4.x_gseq1, M4.x_gseq2, M4.x_gcons, M4.x_gnil, M4.x_Eq_int, M4.x_Eq_str, M4.x_Eq_bl, M4.x_Ne_int, M4.x_Ne_str, M4.x_Ne_bl])
namespace M4
open PySem PySem.Spec PyProof.Rows L2 LiI RZ DL
open PySem.W hiding Dat
open N4 (top fDraw fMixed fSame dpD dpDs fitD fitDs)
section
variable [TabsOf] {P : Program} {w : World} {K : PySem.W.Frag} {mg : Str → Option Value} {base : Heap}
mutual
/-- nothing owned in it -/
def ns : Dat → Bool
  | .lst l => nss l
  | .tup l => nss l
  | .own _ => false
  | .non => true
  | .bl _ => true
  | .int _ => true
  | .str _ => true
  | .strm => true
  | .fn _ => true
def nss : List Dat → Bool
  | [] => true
  | d :: l => ns d && nss l
end
mutual
theorem ns_dv {G : Hp} {W : Wd} : ∀ (d : Dat) {v : V}, Dv G W d v → ns d = true
  | .non, _, h => rfl
  | .bl b, _, h => rfl
  | .int b, _, h => rfl
  | .str b, _, h => rfl
  | .strm, _, h => rfl
  | .fn a, _, h => rfl
  | .own l, _, h => by unfold Dv at h; exact h.elim
  | .lst l, v, h => by
    unfold Dv at h
    unfold ns
    obtain ⟨a, xs, rfl, h, r⟩ := h
    exact nss_dvs l r
  | .tup l, v, h => by
    unfold Dv at h
    unfold ns
    obtain ⟨a, xs, rfl, h, r⟩ := h
    exact nss_dvs l r
theorem nss_dvs {G : Hp} {W : Wd} : ∀ (l : List Dat) {xs : List V}, Dvs G W l xs → nss l = true
  | [], _, h => rfl
  | d :: l, xs, h => by
    unfold Dvs at h
    unfold nss
    obtain ⟨x, r, rfl, h1, h2⟩ := h
    rw [ns_dv d h1, nss_dvs l h2]
    rfl
end
mutual
theorem ns_sh : ∀ d : Dat, ns d = true → d.sh = d
  | .non, _ => rfl
  | .bl b, _ => rfl
  | .int b, _ => rfl
  | .str b, _ => rfl
  | .strm, _ => rfl
  | .fn a, _ => rfl
  | .own l, h => by cases h
  | .lst l, _ => rfl
  | .tup l, h => by
    unfold ns at h
    unfold Dat.sh
    rw [nss_sh l h]
theorem nss_sh : ∀ l : List Dat, nss l = true → shs l = l
  | [], _ => rfl
  | d :: l, h => by
    unfold nss at h
    rw [Bool.and_eq_true] at h
    unfold shs
    rw [ns_sh d h.1, nss_sh l h.2]
end
theorem spD_imp {m k : Nat} {f : Addr} {fd : FuncData} {ps : List Str} {g g' : DF} (F : FnOk P w K mg base CX0 k f fd ps (spD m g)) (h : ∀ ds n q, ds.length = m → nss ds = true → g' ds n q → g ds n q) : FnOk P w K mg base CX0 k f fd ps (spD m g') :=
  F.imp fun vs H Q E ⟨W, G, n, ds, q, hs, hd, hl, e, ke⟩ => ⟨W, G, n, ds, q, hs, hd, hl, h ds n q hl (nss_dvs _ hd) e, ke⟩
/-- anything that shows the same -/
def cop (j : Nat) : DF := fun ds n Q => ∃ d, ds = [d] ∧ (dpD d ≤ j ∧ fitD 1000 d = true) ∧ ∀ d', d'.sh = d → Q d' n
theorem cop_lc {j : Nat} {D : DSt} {n : Int} (hD : 2 < D.length) : ∀ (l acc : List Dat) (Q : List Dat → Int → Prop), dpDs l ≤ j → fitDs 1000 l = true → nss l = true → (∀ l', shs l' = l → Q (acc ++ l') n) →
    dLcGo (dgName 2) dYes (dCall 1 (cop j) (dCons (dVar 2) dNil)) D l n acc Q
  | [], acc, Q, _, _, _, k => by
    have := k [] rfl
    rw [List.append_nil] at this
    exact this
  | d :: l, acc, Q, h1, h2, h3, k => by
    unfold dpDs at h1
    unfold fitDs at h2
    unfold nss at h3
    rw [Bool.and_eq_true] at h2 h3
    refine ⟨d, ?_, rfl, d, ?_, ⟨by omega, h2.1⟩, fun d' e => ?_⟩
    · rw [List.getElem?_set_self hD]
    · show [d.sh] = [d]
      rw [ns_sh d h3.1]
    · refine cop_lc hD l _ Q (by omega) h2.2 h3.2 fun l' e' => ?_
      rw [List.append_assoc]
      refine k (d' :: l') ?_
      unfold shs
      rw [e, e']
theorem cop_step {j : Nat} {d : Dat} {n : Int} {Q : Dat → Int → Prop} (hd : dpD d ≤ j + 1) (hf : fitD 1000 d = true) (hs : ns d = true) (k : ∀ d', d'.sh = d → Q d' n) : f_51 (cop j) [d] n Q := by
  unfold f_51 b_51
  cases d with
  | own l => cases hs
  | strm => cases hf
  | fn a => cases hf
  | lst l =>
    unfold dpD at hd
    unfold fitD at hf
    unfold ns at hs
    rw [Bool.and_eq_true, decide_eq_true_eq] at hf
    have k := fun l' (e : shs l' = l) => k (.lst (shs l')) (by rw [Dat.sh, e])
    have e0 := nss_sh l hs
    simp!
    exact ⟨Nat.le_trans hf.1 (by decide), cop_lc (by show 2 < 4; decide) l [] _ (by omega) hf.2 hs fun l' e => k l' e⟩
  | tup l =>
    unfold dpD at hd
    unfold fitD at hf
    unfold ns at hs
    rw [Bool.and_eq_true, decide_eq_true_eq] at hf
    have e0 := nss_sh l hs
    have k := fun l' (e : shs l' = l) => k (.tup (shs l')) (by rw [Dat.sh, e, e0])
    simp!
    simp only [e0]
    simp!
    refine ⟨Nat.le_trans hf.1 (by decide), cop_lc (by show 2 < 4; decide) l [] _ (by omega) hf.2 hs fun l' e => ?_⟩
    simp!
    exact k l' e
  | non => simp!; exact k _ rfl
  | bl b => simp!; exact k _ rfl
  | int b => simp!; exact k _ rfl
  | str b => simp!; exact k _ rfl
theorem FnOk.no {k m : Nat} {f : Addr} {fd : FuncData} {ps : List Str} : FnOk P w K mg base CX0 k f fd ps (spD m fun _ _ _ => False) :=
  ⟨fun vs H Q E ⟨W, G, n, ds, q, hs, hd, hl, e, ke⟩ => e.elim, fun A outer s H args us vs Q E _ _ _ _ ⟨W, G, n, ds, q, hs, hd, hl, e, ke⟩ => e.elim⟩
/-- _law_copied, as deep as j -/
theorem ok_copied {f : Addr} {fd : FuncData} (F : Fun K "_law_copied" "_law_copied" (top 51) f fd) (m : mg "_law_copied" = some (.ref f)) (b : Binds K fd ["thing"] []) (m_dict : mg "dict" = none) (m_isinstance : mg "isinstance" = none) (m_list : mg "list" = none) (m_tuple : mg "tuple" = none) : ∀ j : Nat, FnOk P w K mg base CX0 (j + 1) f fd ["thing"] (spD 1 (cop j)) := by
  have st : ∀ (j k : Nat) (S : DF), FnOk P w K mg base CX0 k f fd ["thing"] (spD 1 S) → (∀ d n Q, dpD d ≤ j → fitD 1000 d = true → ns d = true → (∀ d', d'.sh = d → Q d' n) → f_51 S [d] n Q) → FnOk P w K mg base CX0 (k + 1) f fd ["thing"] (spD 1 (cop j)) := fun j k S o h =>
    spD_imp (ok_51 (Nat.zero_le k) F ⟨f, fd, m, F.kp, b, o⟩ m_dict m_isinstance m_list m_tuple) fun ds n q _ hn ⟨d, e, ⟨h1, h2⟩, h3⟩ => by
      subst e
      unfold nss at hn
      rw [Bool.and_eq_true] at hn
      exact h d n q h1 h2 hn.1 h3
  intro j
  induction j with
  | zero =>
    refine st 0 0 (fun _ _ _ => False) ?_ ?_
    · exact FnOk.no
    · intro d n Q h1 h2 h3 k
      unfold f_51 b_51
      cases d with
      | own l => cases h3
      | strm => cases h2
      | fn a => cases h2
      | lst l => unfold dpD at h1; omega
      | tup l => unfold dpD at h1; omega
      | non => simp!; exact k _ rfl
      | bl b => simp!; exact k _ rfl
      | int b => simp!; exact k _ rfl
      | str b => simp!; exact k _ rfl
  | succ j ih => exact st (j + 1) (j + 1) (cop j) ih fun d n Q h1 h2 h3 k => cop_step h1 h2 h3 k
mutual
theorem sh_sh : ∀ d : Dat, d.sh.sh = d.sh
  | .non => rfl
  | .bl _ => rfl
  | .int _ => rfl
  | .str _ => rfl
  | .strm => rfl
  | .fn _ => rfl
  | .lst l => rfl
  | .own l => rfl
  | .tup l => by show Dat.tup (shs (shs l)) = Dat.tup (shs l); rw [shs_shs l]
theorem shs_shs : ∀ l : List Dat, shs (shs l) = shs l
  | [] => rfl
  | d :: l => by show d.sh.sh :: shs (shs l) = d.sh :: shs l; rw [sh_sh d, shs_shs l]
end
mutual
/-- the same but for lists and tuples -/
def lo : Dat → Dat → Prop
  | .lst l, x => ∃ l', (x = .lst l' ∨ x = .tup l') ∧ los l l'
  | .tup l, x => ∃ l', (x = .lst l' ∨ x = .tup l') ∧ los l l'
  | .own _, _ => False
  | .non, x => x = .non
  | .bl b, x => x = .bl b
  | .int b, x => x = .int b
  | .str b, x => x = .str b
  | .strm, _ => False
  | .fn _, _ => False
def los : List Dat → List Dat → Prop
  | [], xs => xs = []
  | d :: l, xs => ∃ x r, xs = x :: r ∧ lo d x ∧ los l r
end
mutual
/-- how many lists and tuples -/
def nd : Dat → Nat
  | .lst l => nds l + 1
  | .tup l => nds l + 1
  | .own l => nds l + 1
  | .non => 0
  | .bl _ => 0
  | .int _ => 0
  | .str _ => 0
  | .strm => 0
  | .fn _ => 0
def nds : List Dat → Nat
  | [] => 0
  | d :: l => nd d + nds l
end
def loo (j : Nat) : DF := fun ds n Q => ∃ d, ds = [.strm, d] ∧ (dpD d ≤ j ∧ fitD 1000 d = true ∧ n + nd d < 1000000) ∧ ∀ d', lo d d'.sh → d'.sh = d' → Q d' (n + nd d)
theorem loo_lc {j : Nat} {D : DSt} (hD : 2 < D.length) (h0 : D[0]? = some (some .strm)) : ∀ (l acc : List Dat) (n : Int) (Q : List Dat → Int → Prop), dpDs l ≤ j → fitDs 1000 l = true → n + nds l < 1000000 → nss l = true → (∀ l', los l (shs l') → shs l' = l' → Q (acc ++ l') (n + nds l)) →
    dLcGo (dgName 2) dYes (dCall 2 (loo j) (dCons (dVar 0) (dCons (dVar 2) dNil))) D l n acc Q
  | [], acc, n, Q, _, _, _, _, k => by
    have := k [] (by unfold shs los; rfl) rfl
    rw [List.append_nil] at this
    unfold nds at this
    show Q acc n
    rw [show n = n + ((0 : Nat) : Int) by omega]
    exact this
  | d :: l, acc, n, Q, h1, h2, h4, h3, k => by
    unfold dpDs at h1
    unfold fitDs at h2
    unfold nss at h3
    unfold nds at h4 k
    rw [Bool.and_eq_true] at h2 h3
    refine ⟨.strm, ?_, d, ?_, rfl, d, ?_, ⟨by omega, h2.1, by omega⟩, fun d' e es => ?_⟩
    · rw [List.getElem?_set_ne (by decide)]
      exact h0
    · rw [List.getElem?_set_self hD]
    · show [Dat.strm, d.sh] = [Dat.strm, d]
      rw [ns_sh d h3.1]
    · refine loo_lc hD h0 l _ _ Q (by omega) h2.2 (by omega) h3.2 fun l' e' es' => ?_
      rw [List.append_assoc]
      have := k (d' :: l') (by unfold shs los; exact ⟨_, _, rfl, e, e'⟩) (by unfold shs; rw [es, es'])
      rw [show n + (nd d : Int) + (nds l : Int) = n + ((nd d + nds l : Nat) : Int) by omega]
      exact this
theorem loo_step {j : Nat} {d : Dat} {n : Int} {Q : Dat → Int → Prop} (hd : dpD d ≤ j + 1) (hf : fitD 1000 d = true) (hn : n + nd d < 1000000) (hs : ns d = true) (k : ∀ d', lo d d'.sh → d'.sh = d' → Q d' (n + nd d)) : f_52 (loo j) [.strm, d] n Q := by
  unfold f_52 b_52
  cases d with
  | own l => cases hs
  | strm => cases hf
  | fn a => cases hf
  | lst l =>
    unfold dpD at hd
    unfold fitD at hf
    unfold ns at hs
    unfold nd at hn k
    rw [Bool.and_eq_true, decide_eq_true_eq] at hf
    simp!
    refine ⟨Nat.le_trans hf.1 (by decide), loo_lc (by show 2 < 4; decide) rfl l [] n _ (by omega) hf.2 (by omega) hs fun l' e _ => ⟨2, rfl, ⟨by decide, by decide, by omega⟩, fun g g0 g2 => ?_⟩⟩
    have kk : ∀ m, lo (.lst l) m → m.sh = m → Q m (n + (nds l : Int) + 1) := fun m h z => by
      rw [show n + (nds l : Int) + 1 = n + ((nds l + 1 : Nat) : Int) by omega]
      exact k m (by rw [z]; exact h) z
    simp only [Dat.sh, dEq, DL.Dat.bl.injEq, exists_eq_left']
    split
    · exact kk _ (by unfold lo; exact ⟨_, .inr rfl, e⟩) (by rw [Dat.sh, shs_shs])
    · exact kk _ (by unfold lo; exact ⟨_, .inl rfl, e⟩) rfl
  | tup l =>
    unfold dpD at hd
    unfold fitD at hf
    unfold ns at hs
    unfold nd at hn k
    rw [Bool.and_eq_true, decide_eq_true_eq] at hf
    simp!
    simp only [nss_sh l hs]
    simp!
    refine ⟨Nat.le_trans hf.1 (by decide), loo_lc (by show 2 < 4; decide) rfl l [] n _ (by omega) hf.2 (by omega) hs fun l' e _ => ?_⟩
    simp!
    refine ⟨2, rfl, ⟨by decide, by decide, by omega⟩, fun g g0 g2 => ?_⟩
    have kk : ∀ m, lo (.tup l) m → m.sh = m → Q m (n + (nds l : Int) + 1) := fun m h z => by
      rw [show n + (nds l : Int) + 1 = n + ((nds l + 1 : Nat) : Int) by omega]
      exact k m (by rw [z]; exact h) z
    simp only [Dat.sh, dEq, DL.Dat.bl.injEq, exists_eq_left']
    split
    · exact kk _ (by unfold lo; exact ⟨_, .inr rfl, e⟩) (by rw [Dat.sh, shs_shs])
    · exact kk _ (by unfold lo; exact ⟨_, .inl rfl, e⟩) rfl
  | non => simp!; simpa [nd] using k .non (by simp [lo, Dat.sh]) rfl
  | bl b => simp!; simpa [nd] using k (.bl b) (by simp [lo, Dat.sh]) rfl
  | int b => simp!; simpa [nd] using k (.int b) (by simp [lo, Dat.sh]) rfl
  | str b => simp!; simpa [nd] using k (.str b) (by simp [lo, Dat.sh]) rfl
/-- _law_loose, as deep as j -/
theorem ok_loose {f : Addr} {fd : FuncData} (F : Fun K "_law_loose" "_law_loose" (top 52) f fd) (m : mg "_law_loose" = some (.ref f)) (b : Binds K fd ["stream", "thing"] []) (DD : Df P w K mg base "_law_draw" 1 ["stream", "many"] (spD 2 fDraw)) (m_isinstance : mg "isinstance" = none) (m_list : mg "list" = none) (m_tuple : mg "tuple" = none) : ∀ j : Nat, FnOk P w K mg base CX0 (j + 2) f fd ["stream", "thing"] (spD 2 (loo j)) := by
  have st : ∀ (j k : Nat) (S : DF), FnOk P w K mg base CX0 (k + 1) f fd ["stream", "thing"] (spD 2 S) → (∀ d (n : Int) Q, dpD d ≤ j → fitD 1000 d = true → n + nd d < 1000000 → ns d = true → (∀ d', lo d d'.sh → d'.sh = d' → Q d' (n + nd d)) → f_52 S [.strm, d] n Q) → FnOk P w K mg base CX0 (k + 2) f fd ["stream", "thing"] (spD 2 (loo j)) := fun j k S o h =>
    spD_imp (ok_52 (k := k + 1) (by omega) F ⟨f, fd, m, F.kp, b, o⟩ DD m_isinstance m_list m_tuple) fun ds n q _ hn ⟨d, e, ⟨h1, h2, h4⟩, h3⟩ => by
      subst e
      unfold nss nss at hn
      rw [Bool.and_eq_true, Bool.and_eq_true] at hn
      exact h d n q h1 h2 h4 hn.2.1 h3
  intro j
  induction j with
  | zero =>
    refine st 0 0 (fun _ _ _ => False) FnOk.no ?_
    intro d n Q h1 h2 h4 h3 k
    unfold f_52 b_52
    cases d with
    | own l => cases h3
    | strm => cases h2
    | fn a => cases h2
    | lst l => unfold dpD at h1; omega
    | tup l => unfold dpD at h1; omega
    | non => simp!; simpa [nd] using k .non (by simp [lo, Dat.sh]) rfl
    | bl b => simp!; simpa [nd] using k (.bl b) (by simp [lo, Dat.sh]) rfl
    | int b => simp!; simpa [nd] using k (.int b) (by simp [lo, Dat.sh]) rfl
    | str b => simp!; simpa [nd] using k (.str b) (by simp [lo, Dat.sh]) rfl
  | succ j ih => exact st (j + 1) (j + 1) (loo j) ih fun d n Q h1 h2 h4 h3 k => loo_step h1 h2 h4 h3 k
theorem cells_of {ns : List Str} {sc : Scope} (h : (ns.all fun y => decide (sc.names.lookup y = some NameKind.cell)) = true) : ∀ y ∈ ns, sc.names.lookup y = some NameKind.cell := fun y hy => of_decide_eq_true (List.all_eq_true.mp h y hy)
/-- what the law needs: as deep as five -/
abbrev fCopied : DF := cop 5
abbrev fLoose : DF := loo 5
end
end M4
set_option Elab.async false
set_option linter.all false
set_option maxRecDepth 100000
set_option maxHeartbeats 4000000
namespace M4
open PySem PySem.Spec PyProof.Rows L2 LiI RZ DL
open PySem.W hiding Dat
open N4 (top fDraw fMixed fSame dpD dpDs fitD fitDs)
section
variable [TabsOf] {P : Program} {w : World} {K : PySem.W.Frag} {mg : Str → Option Value} {base : Heap}
/-- law -/
def b_75 : DS := (dSeq (dForR [false, false, false, false, false, false, false, false, false, false, false, false, false, false, false, false, false, false, false, false, false, false, false, false, false, false, false, false, false, false] (dRng1 (dCons (dC (.int 3)) dNil)) (dgName 2) (dSeq (dSet 3 [false, true, false, false, false, false, false, false, false, false, false, false, false, false, false, false, false, false, false, false, false, false, false, false, false, false, false, false, false, false] (dCall 1 f_74 (dCons (dVar 1) dNil))) (dSeq (dAsg [false, false, false, true, false, false, false, false, false, false, false, false, false, false, false, false, false, false, false, false, false, false, false, false, false, false, false, false, false, false] (dVar 3) (dgSeq 2 (dgCons (dgName 4) (dgCons (dgSeq 3 (dgCons (dgName 5) (dgCons (dgName 6) (dgCons (dgName 7) dgNil)))) dgNil)))) (dSeq (dSet 8 [false, false, false, false, true, false, false, true, false, false, false, false, false, false, false, false, false, false, false, false, false, false, false, false, false, false, false, false, false, false] (dOp (dI CDiv fun i j => .int (i / j)) (dCB dLen (dCons (dVar 7) dNil)) (dVar 4))) (dSeq (dSet 9 [false, false, false, true, false, false, false, false, false, false, false, false, false, false, false, false, false, false, false, false, false, false, false, false, false, false, false, false, false, false] (dCall 2 f_67 (dCons (dVar 3) (dCons (dC (.int 0)) dNil)))) (dSeq (dAsg [false, true, false, false, false, false, true, false, true, true, false, false, false, false, false, false, false, false, false, false, false, false, false, false, false, false, false, false, false, false] (dTup (dCons (dOp (dI CDiv fun i j => .int (i / j)) (dVar 8) (dVar 6)) (dCons (dCall 2 fLoose (dCons (dVar 1) (dCons (dVar 9) dNil))) dNil))) (dgSeq 2 (dgCons (dgName 10) (dgCons (dgName 11) dgNil)))) (dSeq (dIfS [false, true, false, true, true, true, true, false, false, true, true, true, false, false, false, false, false, false, false, false, false, false, false, false, false, false, false, false, false, false] (dNot (dTest (N4.dTw 5 1 (dVar 3) [5, 6, 10, 4, 11] [4, 10, 6, 5, 9] (dCall 5 f_36 (dCons (dVar 0) (dCons (dVar 1) (dCons (dVar 2) (dCons (dVar 3) (dCons (dVar 4) dNil)))))) (dCallK 5 0 5 [4, 3, 2, 1, 0] f_36 dNil (dCons (dCB dList (dCons (dVar 4) dNil)) (dCons (dVar 0) (dCons (dVar 1) (dCons (dVar 2) (dCons (dVar 3) dNil))))))))) (dRet [false, false, false, false, false, false, false, false, false, false, false, false, false, false, false, false, false, false, false, false, false, false, false, false, false, false, false, false, false, false] (dC (.bl false))) dNext) (dSeq (dSet 13 [false, true, false, true, false, false, false, false, false, false, false, false, true, false, false, false, false, false, false, false, false, false, false, false, false, false, false, false, false, false] (dLc (dItems (dOp dIx (dCall 3 f_73 (dCons (dVar 1) (dCons (dVar 3) (dCons (dC (.int 7)) dNil)))) (dC (.int 1)))) (dgName 12) (dTest (dOp dEq (dOp dIx (dVar 12) (dC (.int 0))) (dC (.str "done")))) (dVar 12) [12])) (dSeq (dSet 14 [false, false, false, true, false, false, false, false, false, false, false, false, false, true, false, false, false, false, false, false, false, false, false, false, false, false, false, false, false, false] (dIf (dTest (dOp dNe (dVar 13) (dLst dNil))) (dOp dIx (dOp dIx (dVar 13) (dUn (dU fun i => .int (-i)) (dC (.int 1)))) (dC (.int 2))) (dVar 3))) (dSeq (dSet 7 [false, false, false, false, false, false, false, false, false, false, false, false, false, false, true, false, false, false, false, false, false, false, false, false, false, false, false, false, false, false] (dCB dList (dCons (dOp dIx (dOp dIx (dVar 14) (dC (.int 1))) (dC (.int 2))) dNil))) (dSeq (dForR [false, true, false, false, false, false, false, false, false, false, false, false, false, false, false, false, false, false, false, false, false, false, false, false, false, false, false, false, false, false] (dRng1 (dCons (dCall 2 fDraw (dCons (dVar 1) (dCons (dC (.int 5)) dNil))) dNil)) (dgName 15) (dSeq (dSet 16 [false, true, false, false, true, false, false, false, true, false, false, false, false, false, false, false, false, false, false, false, false, false, false, false, false, false, false, false, false, false] (dOp dPlus (dOp dTimes (dCall 2 fDraw (dCons (dVar 1) (dCons (dVar 4) dNil))) (dVar 8)) (dCall 2 f_47 (dCons (dVar 1) (dCons (dLst (dCons (dC (.int 0)) (dCons (dC (.int 1)) (dCons (dC (.int 2)) (dCons (dC (.int 3)) (dCons (dC (.int 4)) (dCons (dOp (dI0 fun i j => .int (i - j)) (dVar 8) (dC (.int 1))) (dCons (dCall 2 fDraw (dCons (dVar 1) (dCons (dVar 8) dNil))) dNil)))))))) dNil))))) (dSub 7 [false, true, false, false, false, true, false, true, false, false, false, false, false, false, false, false, true, false, false, false, false, false, false, false, false, false, false, false, false, false] (dCall 2 f_47 (dCons (dVar 1) (dCons (dLst (dCons (dC (.int 0)) (dCons (dC (.int 1)) (dCons (dCall 1 f_56 (dCons (dVar 5) dNil)) (dCons (dCall 1 f_58 (dCons (dVar 5) dNil)) (dCons (dOp dIx (dVar 7) (dVar 16)) dNil)))))) dNil))) (dVar 16)))) (dSeq (dSet 14 [false, false, false, false, true, true, true, true, false, false, false, false, false, false, false, false, false, false, false, false, false, false, false, false, false, false, false, false, false, false] (dTup (dCons (dVar 4) (dCons (dTup (dCons (dVar 5) (dCons (dVar 6) (dCons (dVar 7) dNil)))) dNil)))) (dSeq (dSet 17 [false, true, false, false, false, false, false, false, false, false, false, false, false, false, true, false, false, false, false, false, false, false, false, false, false, false, false, false, false, false] (dCall 2 fLoose (dCons (dVar 1) (dCons (dVar 14) dNil)))) (dSeq (dPar3 18 19 20 [false, false, false, false, false, false, false, false, false, false, false, false, false, false, true, false, false, true, false, false, false, false, false, false, false, false, false, false, false, false] (dCons (dCall 1 fCopied (dCons (dVar 17) dNil)) (dCons (dCall 1 f_69 (dCons (dVar 14) dNil)) (dCons (dCall 1 f_70 (dCons (dVar 14) dNil)) dNil)))) (dSeq (dSet 21 [false, false, false, false, false, false, false, false, false, false, false, false, false, false, true, false, false, false, false, false, true, false, false, false, false, false, false, false, false, false] (dIf (dTest (dIsN (dVar 20))) (dTup (dCons (dC (.str "none")) dNil)) (dTup (dCons (dC (.str "run")) (dCons (dVar 20) (dCons (dOp dIx (dCall 2 f_67 (dCons (dVar 14) (dCons (dVar 20) dNil))) (dC (.int 0))) dNil)))))) (dSeq (dIfS [false, true, false, false, false, false, false, false, false, false, false, false, false, false, true, false, false, true, false, true, false, true, false, false, false, false, false, false, false, false] (dOr (dNot (dTest (N4.dTw 5 1 (dVar 21) [17] [14] (dCall 1 f_41 (dCons (dVar 0) dNil)) (dCallK 1 0 1 [0] f_41 dNil (dCons (dCall 1 fCopied (dCons (dVar 0) dNil)) dNil))))) (dNot (dTest (N4.dTw 5 1 (dVar 19) [17] [14] (dCall 1 f_43 (dCons (dVar 0) dNil)) (dCallK 1 0 1 [0] f_43 dNil (dCons (dCall 1 fCopied (dCons (dVar 0) dNil)) dNil)))))) (dRet [false, false, false, false, false, false, false, false, false, false, false, false, false, false, false, false, false, false, false, false, false, false, false, false, false, false, false, false, false, false] (dC (.bl false))) dNext) (dSeq (dForR [false, false, false, false, true, false, false, false, false, false, false, false, false, false, false, false, false, false, false, false, false, false, false, false, false, false, false, false, false, false] (dRng1 (dCons (dVar 4) dNil)) (dgName 20) (dSeq (dSet 22 [false, false, false, false, false, false, false, false, false, false, false, false, false, false, true, false, false, false, false, false, true, false, false, false, false, false, false, false, false, false] (dCall 2 f_67 (dCons (dVar 14) (dCons (dVar 20) dNil)))) (dIfS [false, false, false, false, false, false, false, false, false, false, false, false, false, false, true, false, false, true, false, false, true, false, true, false, false, false, false, false, false, false] (dNot (dTest (dCall 2 fSame (dCons (dLst (dCons (dCall 2 f_35 (dCons (dVar 17) (dCons (dVar 20) dNil))) (dCons (dCallK 2 0 2 [1, 0] f_35 dNil (dCons (dVar 20) (dCons (dCall 1 fCopied (dCons (dVar 14) dNil)) dNil))) dNil))) (dCons (dLst (dCons (dVar 22) (dCons (dVar 22) dNil))) dNil))))) (dRet [false, false, false, false, false, false, false, false, false, false, false, false, false, false, false, false, false, false, false, false, false, false, false, false, false, false, false, false, false, false] (dC (.bl false))) dNext))) (dSeq (dSet 23 [false, true, false, false, false, false, false, true, false, false, false, false, false, false, false, false, false, false, false, false, false, false, false, false, false, false, false, false, false, false] (dSl (dVar 7) dNoPart (dPart (dCall 2 fDraw (dCons (dVar 1) (dCons (dCB dLen (dCons (dVar 7) dNil)) dNil)))))) (dSeq (dSet 24 [false, false, false, false, true, true, true, true, false, false, false, false, false, false, true, false, false, true, false, false, false, false, false, true, false, false, false, false, false, false] (dLst (dCons (dVar 17) (dCons (dTup (dCons (dVar 4) (dCons (dTup (dCons (dVar 5) (dCons (dVar 6) (dCons (dVar 23) dNil)))) dNil))) (dCons (dTup (dCons (dOp dPlus (dVar 4) (dC (.int 1))) (dCons (dOp dIx (dVar 14) (dC (.int 1))) dNil))) (dCons (dTup (dCons (dC (.int 1)) (dCons (dOp dIx (dVar 14) (dC (.int 1))) dNil))) (dCons (dTup (dCons (dC (.bl true)) (dCons (dOp dIx (dVar 14) (dC (.int 1))) dNil))) (dCons (dTup (dCons (dVar 4) (dCons (dTup (dCons (dVar 5) (dCons (dC (.int 2)) (dCons (dVar 7) dNil)))) dNil))) dNil)))))))) (dSeq (dExt 24 [false, false, false, false, true, true, true, true, false, false, false, false, false, false, false, false, false, false, false, false, false, false, false, false, false, false, false, false, false, false] (dLst (dCons (dTup (dCons (dVar 4) (dCons (dTup (dCons (dC (.int 3)) (dCons (dVar 6) (dCons (dVar 7) dNil)))) dNil))) (dCons (dTup (dCons (dVar 4) (dCons (dTup (dCons (dVar 5) (dCons (dVar 6) (dCons (dOp dPlus (dSl (dVar 7) dNoPart (dPart (dUn (dU fun i => .int (-i)) (dC (.int 1))))) (dLst (dCons (dOp dPlus (dCall 1 f_58 (dCons (dVar 5) dNil)) (dC (.int 1))) dNil))) dNil)))) dNil))) (dCons (dTup (dCons (dVar 4) dNil)) (dCons (dC .non) (dCons (dC (.int 5)) (dCons (dTup (dCons (dVar 4) (dCons (dC .non) dNil))) dNil)))))))) (dSeq (dFor [false, true, false, false, false, false, false, false, false, false, false, false, false, false, false, false, false, false, false, false, false, false, false, false, true, false, false, false, false, false] (dItems (dCall 2 fMixed (dCons (dVar 1) (dCons (dVar 24) dNil)))) (dgName 25) (dSeq (dSet 26 [false, false, false, false, false, false, false, false, false, false, false, false, false, false, false, false, false, false, false, false, false, false, false, false, false, true, false, false, false, false] (dAndV (dNotN (dVar 25)) (dAndV (dIsLT (dVar 25)) (dAndV (dOp dEq (dCB dLen (dCons (dVar 25) dNil)) (dC (.int 2))) (dAndV (dCall 2 f_54 (dCons (dOp dIx (dVar 25) (dC (.int 0))) (dCons (dC .non) dNil))) (dAndV (dOp (dI0 fun i j => .bl (decide (j < i))) (dOp dIx (dVar 25) (dC (.int 0))) (dC (.int 1))) (dNotN (dOp dIx (dVar 25) (dC (.int 1)))))))))) (dSeq (dIfS [false, false, false, false, false, false, false, false, false, false, false, false, false, false, false, false, false, false, false, false, false, false, false, false, false, false, true, false, false, false] (dTruth (dVar 26)) (dSeq (dAsg [false, false, false, false, false, false, false, false, false, false, false, false, false, false, false, false, false, false, false, false, false, false, false, false, false, true, false, false, false, false] (dOp dIx (dVar 25) (dC (.int 1))) (dgSeq 3 (dgCons (dgName 27) (dgCons (dgName 28) (dgCons (dgName 22) dgNil))))) (dSet 26 [false, false, false, false, false, false, false, false, false, false, false, false, false, false, false, false, false, false, false, false, false, false, true, false, false, true, false, true, true, true] (dAndV (dOp (dI0 fun i j => .bl (decide (j < i))) (dVar 27) (dC (.int 3))) (dAndV (dOp (dI0 fun i j => .bl (decide (j < i))) (dVar 28) (dC (.int 2))) (dAndV (dCB dAll (dCons (dLc (dItems (dVar 22)) (dgName 29) dYes (dOp (dI0 fun i j => .bl (decide (i ≤ j))) (dVar 29) (dCall 1 f_58 (dCons (dVar 27) dNil))) [29]) dNil)) (dAndV (dOp (dI0 fun i j => .bl (decide (j ≤ i))) (dCB dLen (dCons (dVar 22) dNil)) (dOp dTimes (dOp dTimes (dC (.int 2)) (dOp dIx (dVar 25) (dC (.int 0)))) (dVar 28))) (dOp dEq (dOp (dI (fun _ j => 0 < j) fun i j => .int (i % j)) (dCB dInt (dCons (dCB dLen (dCons (dVar 22) dNil)) dNil)) (dOp dTimes (dOp dIx (dVar 25) (dC (.int 0))) (dVar 28))) (dC (.int 0))))))))) dNext) (dIfS [false, false, false, false, false, false, false, false, false, false, false, false, false, false, false, false, false, false, false, false, false, false, false, false, false, true, true, false, false, false] (dNot (dTest (dCall 2 fSame (dCons (dLst (dCons (dCall 1 f_30 (dCons (dCall 1 fCopied (dCons (dVar 25) dNil)) dNil)) (dCons (dCallK 1 0 1 [0] f_30 dNil (dCons (dCall 1 fCopied (dCons (dVar 25) dNil)) dNil)) dNil))) (dCons (dLst (dCons (dVar 26) (dCons (dVar 26) dNil))) dNil))))) (dRet [false, false, false, false, false, false, false, false, false, false, false, false, false, false, false, false, false, false, false, false, false, false, false, false, false, false, false, false, false, false] (dC (.bl false))) dNext)))) (dIfS [false, false, false, false, false, false, false, false, false, false, false, false, false, false, false, false, false, true, true, false, false, false, false, false, false, false, false, false, false, false] (dNot (dTest (dCall 2 fSame (dCons (dVar 17) (dCons (dVar 18) dNil))))) (dRet [false, false, false, false, false, false, false, false, false, false, false, false, false, false, false, false, false, false, false, false, false, false, false, false, false, false, false, false, false, false] (dC (.bl false))) dNext)))))))))))))))))))))) (dRet [false, false, false, false, false, false, false, false, false, false, false, false, false, false, false, false, false, false, false, false, false, false, false, false, false, false, false, false, false, false] (dC (.bl true))))
theorem sc_75 : FnScope ["script", "stream", "turn", "fresh", "count", "width", "block", "cells", "size", "image", "blocks", "given", "told", "tolds", "ring", "k", "at", "handed", "was", "whys", "slot", "due", "own", "odd", "things", "thing", "right", "w", "b", "one"] ["script"] (defScope (top 75)) := ⟨rfl, rfl, rfl, by decide, rfl, by decide +kernel, by decide +kernel⟩
theorem ok_75 {f c Pa : Addr} {fd : FuncData} (F : Fun K "law" "law" (top 75) f fd) (hc : fd.code = .ref c) (TB : LamX.TabB base mg c Pa) (hm : (Pa, ("law.<locals>.<lambda>" : Str)) ∈ TabsOf.T) (hu : ∀ p ∈ TabsOf.T, p.1 = Pa → p.2 = ("law.<locals>.<lambda>" : Str)) (DT : Df P w K mg base "_law_stream" 1 ["script"] (N4.spStream K)) (D_twice : Df P w K mg base "_law_twice" 21 ["due", "first", "other"] (N4.spTwice P w K mg base 20 5)) (D__law_g_ring : Df P w K mg base "_law_g_ring" 4 ["stream"] (spD 1 f_74)) (D__law_g_image : Df P w K mg base "_law_g_image" 3 ["ring", "slot"] (spD 2 f_67)) (D__law_loose : Df P w K mg base "_law_loose" 7 ["stream", "thing"] (spD 2 fLoose)) (D_fresh_ring : Df P w K mg base "fresh_ring" 7 ["width", "block", "blocks", "count", "image"] (spD 5 f_36)) (D__law_g_events : Df P w K mg base "_law_g_events" 8 ["stream", "ring", "many"] (spD 3 f_73)) (D__law_draw : Df P w K mg base "_law_draw" 1 ["stream", "many"] (spD 2 fDraw)) (D__law_pick : Df P w K mg base "_law_pick" 2 ["stream", "things"] (spD 2 f_47)) (D__law_f_ones : Df P w K mg base "_law_f_ones" 1 ["width"] (spD 1 f_58)) (D__law_f_mark : Df P w K mg base "_law_f_mark" 1 ["width"] (spD 1 f_56)) (D__law_g_run : Df P w K mg base "_law_g_run" 5 ["ring"] (spD 1 f_70)) (D__law_g_whys : Df P w K mg base "_law_g_whys" 4 ["ring"] (spD 1 f_69)) (D__law_copied : Df P w K mg base "_law_copied" 6 ["thing"] (spD 1 fCopied)) (D_ring_run : Df P w K mg base "ring_run" 10 ["ring"] (spD 1 f_41)) (D_ring_why : Df P w K mg base "ring_why" 10 ["ring"] (spD 1 f_43)) (D__law_same : Df P w K mg base "_law_same" 8 ["found", "due"] (spD 2 fSame)) (D_ring_image : Df P w K mg base "ring_image" 8 ["ring", "slot"] (spD 2 f_35)) (D__law_mixed : Df P w K mg base "_law_mixed" 2 ["stream", "things"] (spD 2 fMixed)) (D__law_is_number : Df P w K mg base "_law_is_number" 1 ["thing", "most"] (spD 2 f_54)) (D_is_ring : Df P w K mg base "is_ring" 7 ["thing"] (spD 1 f_30)) (DK_fresh_ring_0_image_count_blocks_block_width : DfK P w K mg base "fresh_ring" 7 ["width", "block", "blocks", "count", "image"] 0 ["image", "count", "blocks", "block", "width"] [4, 3, 2, 1, 0] (spD 5 f_36)) (DK_ring_run_0_ring : DfK P w K mg base "ring_run" 10 ["ring"] 0 ["ring"] [0] (spD 1 f_41)) (DK_ring_why_0_ring : DfK P w K mg base "ring_why" 10 ["ring"] 0 ["ring"] [0] (spD 1 f_43)) (DK_ring_image_0_slot_ring : DfK P w K mg base "ring_image" 8 ["ring", "slot"] 0 ["slot", "ring"] [1, 0] (spD 2 f_35)) (DK_is_ring_0_thing : DfK P w K mg base "is_ring" 7 ["thing"] 0 ["thing"] [0] (spD 1 f_30)) (m_all : mg "all" = none) (m_int : mg "int" = none) (m_isinstance : mg "isinstance" = none) (m_len : mg "len" = none) (m_list : mg "list" = none) (m_range : mg "range" = none) (m_tuple : mg "tuple" = none) (hg : b_75 (endD fun d _ => d = .bl true) (N4.lawD 28) 0) : FnOk P w K mg base CX0 22 f fd ["script"] (N4.spLawT K) :=
  N4.fn_law (k := 21) (m := 28) (fb := b_75) F sc_75 hc rfl (fun A outer s0 H E hr => ⟨_, pss_cons (ps_set (i := 1) sc_75.nd rfl (Or.inl rfl) (pe_df DT (hr.mono (by decide)) (by rfl) (pa_cons (pv 0) pa_nil))) (pss_cons (ps_for PassesOwn.never rfl (pi_range1 (by rfl) m_range (pa_cons pe_int pa_nil)) (pg_name (i := 2) sc_75.nd rfl (Or.inl rfl)) (pss_cons (ps_set (i := 3) sc_75.nd rfl (Or.inl rfl) (pe_df D__law_g_ring (hr.mono (by decide)) (by rfl) (pa_cons (pv 1) pa_nil))) (pss_cons (ps_asg (pv 3) (pg_or (pg_tup rfl (pgs_cons (pg_name (i := 4) sc_75.nd rfl (Or.inr rfl)) (pgs_cons (pg_or (pg_tup rfl (pgs_cons (pg_name (i := 5) sc_75.nd rfl (Or.inr rfl)) (pgs_cons (pg_name (i := 6) sc_75.nd rfl (Or.inr rfl)) (pgs_cons (pg_name (i := 7) sc_75.nd rfl (Or.inl rfl)) pgs_nil)))) (pg_lst rfl (pgs_cons (pg_name (i := 5) sc_75.nd rfl (Or.inr rfl)) (pgs_cons (pg_name (i := 6) sc_75.nd rfl (Or.inr rfl)) (pgs_cons (pg_name (i := 7) sc_75.nd rfl (Or.inl rfl)) pgs_nil))))) pgs_nil))) (pg_lst rfl (pgs_cons (pg_name (i := 4) sc_75.nd rfl (Or.inr rfl)) (pgs_cons (pg_or (pg_tup rfl (pgs_cons (pg_name (i := 5) sc_75.nd rfl (Or.inr rfl)) (pgs_cons (pg_name (i := 6) sc_75.nd rfl (Or.inr rfl)) (pgs_cons (pg_name (i := 7) sc_75.nd rfl (Or.inl rfl)) pgs_nil)))) (pg_lst rfl (pgs_cons (pg_name (i := 5) sc_75.nd rfl (Or.inr rfl)) (pgs_cons (pg_name (i := 6) sc_75.nd rfl (Or.inr rfl)) (pgs_cons (pg_name (i := 7) sc_75.nd rfl (Or.inl rfl)) pgs_nil))))) pgs_nil))))) (pss_cons (ps_set (i := 8) sc_75.nd rfl (Or.inl rfl) (pe_op op_fdiv (pe_callB cr_len (by rfl) m_len (by decide +kernel) (pa_cons (pv 7) pa_nil)) (pv 4))) (pss_cons (ps_set (i := 9) sc_75.nd rfl (Or.inr rfl) (pe_df D__law_g_image (hr.mono (by decide)) (by rfl) (pa_cons (pv 3) (pa_cons pe_int pa_nil)))) (pss_cons (ps_asg (pe_tup (pa_cons (pe_op op_fdiv (pv 8) (pv 6)) (pa_cons (pe_df D__law_loose (hr.mono (by decide)) (by rfl) (pa_cons (pv 1) (pa_cons (pv 9) pa_nil))) pa_nil))) (pg_or (pg_tup rfl (pgs_cons (pg_name (i := 10) sc_75.nd rfl (Or.inr rfl)) (pgs_cons (pg_name (i := 11) sc_75.nd rfl (Or.inr rfl)) pgs_nil))) (pg_lst rfl (pgs_cons (pg_name (i := 10) sc_75.nd rfl (Or.inr rfl)) (pgs_cons (pg_name (i := 11) sc_75.nd rfl (Or.inr rfl)) pgs_nil))))) (pss_cons (ps_if (pt_not (pt_val (N4.pe_twice (kk := 19) (n := 5) (ns := ["width", "block", "blocks", "count", "given", "image"]) (N1 := ["width", "block", "blocks", "count", "given"]) (N2 := ["count", "blocks", "block", "width", "image"]) (ix1 := [5, 6, 10, 4, 11]) (ix2 := [4, 10, 6, 5, 9]) (tb1 := (tCall (spD 5 f_36) [] E0 (tCons (tVar 0) (tCons (tVar 1) (tCons (tVar 2) (tCons (tVar 3) (tCons (tVar 4) tNil))))))) (tb2 := (tCallN 0 (["image", "count", "blocks", "block", "width"] : List Str).length (spD 5 f_36) (fun vs zs => pickL [4, 3, 2, 1, 0] (vs ++ zs)) E0 tNil (tCons (tCB (rList K) (tCons (tVar 4) tNil)) (tCons (tVar 0) (tCons (tVar 1) (tCons (tVar 2) (tCons (tVar 3) tNil))))))) D_twice (cells_of (sc := defScope (top 75)) (by decide +kernel)) (fun _ => rfl) (hr.mono (by decide)) (by rfl) (pv 3) TB rfl rfl hm hu (N4.lamS_of (N := ["script", "stream", "turn", "fresh", "count", "width", "block", "cells", "size", "image", "blocks", "given", "told", "tolds", "ring", "k", "at", "handed", "was", "whys", "slot", "due", "own", "odd", "things", "thing", "right", "w", "b", "one"]) (by decide +kernel)) (N4.lamS_of (N := ["script", "stream", "turn", "fresh", "count", "width", "block", "cells", "size", "image", "blocks", "given", "told", "tolds", "ring", "k", "at", "handed", "was", "whys", "slot", "due", "own", "odd", "things", "thing", "right", "w", "b", "one"]) (by decide +kernel)) (fun _ _ _ _ _ _ _ hr => (pe_df D_fresh_ring (hr.mono (by decide)) (by rfl) (pa_cons (pv 0) (pa_cons (pv 1) (pa_cons (pv 2) (pa_cons (pv 3) (pa_cons (pv 4) pa_nil))))))) (fun _ _ _ _ _ _ _ hr => (pe_dfk0 DK_fresh_ring_0_image_count_blocks_block_width (hr.mono (by decide)) (by rfl) (pk_cons (pe_callTy call_list_of (by rfl) m_list (by decide +kernel) (pa_cons (pv 4) pa_nil)) (pk_cons (pv 0) (pk_cons (pv 1) (pk_cons (pv 2) (pk_cons (pv 3) pk_nil)))))))))) (pss_one (ps_ret pe_bl)) pss_nil) (pss_cons (ps_setLc (i := 13) (own := [("told", 12)]) (g := (gName 12)) (tt := (tTest (tOp (rEqs K) (tOp (rIx K) (tVar 12) (tC (.int 0))) (tC (.str "done"))))) (te := (tVar 12)) rfl sc_75.nd rfl rfl (sw_true rfl rfl rfl (by decide +kernel)) (pi_lt (pe_ix ix_seq (pe_df D__law_g_events (hr.mono (by decide)) (by rfl) (pa_cons (pv 1) (pa_cons (pv 3) (pa_cons pe_int pa_nil)))) pe_int (fun _ _ => rfl))) (blkOk_by (own := [("told", 12)]) (N := ["script", "stream", "turn", "fresh", "count", "width", "block", "cells", "size", "image", "blocks", "given", "told", "tolds", "ring", "k", "at", "handed", "was", "whys", "slot", "due", "own", "odd", "things", "thing", "right", "w", "b", "one"]) (sc := defScope (top 75)) (by decide +kernel)) (fun _ _ _ _ _ => (pg_name (i := 12) sc_75.nd rfl (Or.inl rfl))) (fun _ _ _ _ _ => (pts_one (pt_cmpR (op_eqs hr.units) (pe_ix ix_seq (pv 12) pe_int (fun _ _ => rfl)) pe_str (nomark _)))) (fun _ _ _ _ _ => (pv 12))) (pss_cons (ps_set (i := 14) sc_75.nd rfl (Or.inr rfl) (pe_ifExp (pt_cmpR (op_nes hr.units) (pv 13) (pe_lst pa_nil) (nomark _)) (pe_ix ix_seq (pe_ix ix_seq (pv 13) (pe_un un_neg pe_int) (fun _ _ => rfl)) pe_int (fun _ _ => rfl)) (pv 3))) (pss_cons (ps_set (i := 7) sc_75.nd rfl (Or.inl rfl) (pe_callTy call_list_of (by rfl) m_list (by decide +kernel) (pa_cons (pe_ix ix_seq (pe_ix ix_seq (pv 14) pe_int (fun _ _ => rfl)) pe_int (fun _ _ => rfl)) pa_nil))) (pss_cons (ps_for PassesOwn.never rfl (pi_range1 (by rfl) m_range (pa_cons (pe_df D__law_draw (hr.mono (by decide)) (by rfl) (pa_cons (pv 1) (pa_cons pe_int pa_nil))) pa_nil)) (pg_name (i := 15) sc_75.nd rfl (Or.inl rfl)) (pss_cons (ps_set (i := 16) sc_75.nd rfl (Or.inl rfl) (pe_op op_plus (pe_op op_times (pe_df D__law_draw (hr.mono (by decide)) (by rfl) (pa_cons (pv 1) (pa_cons (pv 4) pa_nil))) (pv 8)) (pe_df D__law_pick (hr.mono (by decide)) (by rfl) (pa_cons (pv 1) (pa_cons (pe_lst (pa_cons pe_int (pa_cons pe_int (pa_cons pe_int (pa_cons pe_int (pa_cons pe_int (pa_cons (pe_op op_sub (pv 8) pe_int) (pa_cons (pe_df D__law_draw (hr.mono (by decide)) (by rfl) (pa_cons (pv 1) (pa_cons (pv 8) pa_nil))) pa_nil)))))))) pa_nil))))) (pss_one (ps_asg (pe_df D__law_pick (hr.mono (by decide)) (by rfl) (pa_cons (pv 1) (pa_cons (pe_lst (pa_cons pe_int (pa_cons pe_int (pa_cons (pe_df D__law_f_mark (hr.mono (by decide)) (by rfl) (pa_cons (pv 5) pa_nil)) (pa_cons (pe_df D__law_f_ones (hr.mono (by decide)) (by rfl) (pa_cons (pv 5) pa_nil)) (pa_cons (pe_ix ix_seq (pv 7) (pv 16) (fun _ _ => rfl)) pa_nil)))))) pa_nil))) (pg_sub (pv 7) (pv 16) set_list))))) (pss_cons (ps_set (i := 14) sc_75.nd rfl (Or.inr rfl) (pe_tup (pa_cons (pv 4) (pa_cons (pe_tup (pa_cons (pv 5) (pa_cons (pv 6) (pa_cons (pv 7) pa_nil)))) pa_nil)))) (pss_cons (ps_set (i := 17) sc_75.nd rfl (Or.inr rfl) (pe_df D__law_loose (hr.mono (by decide)) (by rfl) (pa_cons (pv 1) (pa_cons (pv 14) pa_nil)))) (pss_cons (ps_par3 (i := 18) (j := 19) (l := 20) (by rfl) sc_75.nd rfl rfl rfl (by decide) (by decide) (by decide) rfl rfl rfl (pa_cons (pe_df D__law_copied (hr.mono (by decide)) (by rfl) (pa_cons (pv 17) pa_nil)) (pa_cons (pe_df D__law_g_whys (hr.mono (by decide)) (by rfl) (pa_cons (pv 14) pa_nil)) (pa_cons (pe_df D__law_g_run (hr.mono (by decide)) (by rfl) (pa_cons (pv 14) pa_nil)) pa_nil))) (by rfl)) (pss_cons (ps_set (i := 21) sc_75.nd rfl (Or.inl rfl) (pe_ifExp (pt_cmp (pc_isN (pv 20)) rfl) (pe_tup (pa_cons pe_str pa_nil)) (pe_tup (pa_cons pe_str (pa_cons (pv 20) (pa_cons (pe_ix ix_seq (pe_df D__law_g_image (hr.mono (by decide)) (by rfl) (pa_cons (pv 14) (pa_cons (pv 20) pa_nil))) pe_int (fun _ _ => rfl)) pa_nil)))))) (pss_cons (ps_if (PW.pt (pw_or (pt_not (pt_val (N4.pe_twice (kk := 19) (n := 5) (ns := ["handed", "ring"]) (N1 := ["handed"]) (N2 := ["ring"]) (ix1 := [17]) (ix2 := [14]) (tb1 := (tCall (spD 1 f_41) [] E0 (tCons (tVar 0) tNil))) (tb2 := (tCallN 0 (["ring"] : List Str).length (spD 1 f_41) (fun vs zs => pickL [0] (vs ++ zs)) E0 tNil (tCons (tCall (spD 1 fCopied) [] E0 (tCons (tVar 0) tNil)) tNil))) D_twice (cells_of (sc := defScope (top 75)) (by decide +kernel)) (fun _ => rfl) (hr.mono (by decide)) (by rfl) (pv 21) TB rfl rfl hm hu (N4.lamS_of (N := ["script", "stream", "turn", "fresh", "count", "width", "block", "cells", "size", "image", "blocks", "given", "told", "tolds", "ring", "k", "at", "handed", "was", "whys", "slot", "due", "own", "odd", "things", "thing", "right", "w", "b", "one"]) (by decide +kernel)) (N4.lamS_of (N := ["script", "stream", "turn", "fresh", "count", "width", "block", "cells", "size", "image", "blocks", "given", "told", "tolds", "ring", "k", "at", "handed", "was", "whys", "slot", "due", "own", "odd", "things", "thing", "right", "w", "b", "one"]) (by decide +kernel)) (fun _ _ _ _ _ _ _ hr => (pe_df D_ring_run (hr.mono (by decide)) (by rfl) (pa_cons (pv 0) pa_nil))) (fun _ _ _ _ _ _ _ hr => (pe_dfk0 DK_ring_run_0_ring (hr.mono (by decide)) (by rfl) (pk_cons (pe_df D__law_copied (hr.mono (by decide)) (by rfl) (pa_cons (pv 0) pa_nil)) pk_nil)))))) (pw_or1 (pt_not (pt_val (N4.pe_twice (kk := 19) (n := 5) (ns := ["handed", "ring"]) (N1 := ["handed"]) (N2 := ["ring"]) (ix1 := [17]) (ix2 := [14]) (tb1 := (tCall (spD 1 f_43) [] E0 (tCons (tVar 0) tNil))) (tb2 := (tCallN 0 (["ring"] : List Str).length (spD 1 f_43) (fun vs zs => pickL [0] (vs ++ zs)) E0 tNil (tCons (tCall (spD 1 fCopied) [] E0 (tCons (tVar 0) tNil)) tNil))) D_twice (cells_of (sc := defScope (top 75)) (by decide +kernel)) (fun _ => rfl) (hr.mono (by decide)) (by rfl) (pv 19) TB rfl rfl hm hu (N4.lamS_of (N := ["script", "stream", "turn", "fresh", "count", "width", "block", "cells", "size", "image", "blocks", "given", "told", "tolds", "ring", "k", "at", "handed", "was", "whys", "slot", "due", "own", "odd", "things", "thing", "right", "w", "b", "one"]) (by decide +kernel)) (N4.lamS_of (N := ["script", "stream", "turn", "fresh", "count", "width", "block", "cells", "size", "image", "blocks", "given", "told", "tolds", "ring", "k", "at", "handed", "was", "whys", "slot", "due", "own", "odd", "things", "thing", "right", "w", "b", "one"]) (by decide +kernel)) (fun _ _ _ _ _ _ _ hr => (pe_df D_ring_why (hr.mono (by decide)) (by rfl) (pa_cons (pv 0) pa_nil))) (fun _ _ _ _ _ _ _ hr => (pe_dfk0 DK_ring_why_0_ring (hr.mono (by decide)) (by rfl) (pk_cons (pe_df D__law_copied (hr.mono (by decide)) (by rfl) (pa_cons (pv 0) pa_nil)) pk_nil))))))))) (pss_one (ps_ret pe_bl)) pss_nil) (pss_cons (ps_for PassesOwn.never rfl (pi_range1 (by rfl) m_range (pa_cons (pv 4) pa_nil)) (pg_name (i := 20) sc_75.nd rfl (Or.inl rfl)) (pss_cons (ps_set (i := 22) sc_75.nd rfl (Or.inl rfl) (pe_df D__law_g_image (hr.mono (by decide)) (by rfl) (pa_cons (pv 14) (pa_cons (pv 20) pa_nil)))) (pss_one (ps_if (pt_not (pt_val (pe_df D__law_same (hr.mono (by decide)) (by rfl) (pa_cons (pe_lst (pa_cons (pe_df D_ring_image (hr.mono (by decide)) (by rfl) (pa_cons (pv 17) (pa_cons (pv 20) pa_nil))) (pa_cons (pe_dfk0 DK_ring_image_0_slot_ring (hr.mono (by decide)) (by rfl) (pk_cons (pv 20) (pk_cons (pe_df D__law_copied (hr.mono (by decide)) (by rfl) (pa_cons (pv 14) pa_nil)) pk_nil))) pa_nil))) (pa_cons (pe_lst (pa_cons (pv 22) (pa_cons (pv 22) pa_nil))) pa_nil))))) (pss_one (ps_ret pe_bl)) pss_nil)))) (pss_cons (ps_set (i := 23) sc_75.nd rfl (Or.inl rfl) (pe_slice sl_all (pv 7) po_none (po_some (pe_df D__law_draw (hr.mono (by decide)) (by rfl) (pa_cons (pv 1) (pa_cons (pe_callB cr_len (by rfl) m_len (by decide +kernel) (pa_cons (pv 7) pa_nil)) pa_nil)))))) (pss_cons (ps_set (i := 24) sc_75.nd rfl (Or.inl rfl) (pe_lst (pa_cons (pv 17) (pa_cons (pe_tup (pa_cons (pv 4) (pa_cons (pe_tup (pa_cons (pv 5) (pa_cons (pv 6) (pa_cons (pv 23) pa_nil)))) pa_nil))) (pa_cons (pe_tup (pa_cons (pe_op op_plus (pv 4) pe_int) (pa_cons (pe_ix ix_seq (pv 14) pe_int (fun _ _ => rfl)) pa_nil))) (pa_cons (pe_tup (pa_cons pe_int (pa_cons (pe_ix ix_seq (pv 14) pe_int (fun _ _ => rfl)) pa_nil))) (pa_cons (pe_tup (pa_cons pe_bl (pa_cons (pe_ix ix_seq (pv 14) pe_int (fun _ _ => rfl)) pa_nil))) (pa_cons (pe_tup (pa_cons (pv 4) (pa_cons (pe_tup (pa_cons (pv 5) (pa_cons pe_int (pa_cons (pv 7) pa_nil)))) pa_nil))) pa_nil)))))))) (pss_cons (ps_expr (pe_bm PySem.F.plainAttrs_list PySem.F.slot_list_extend PySem.F.type_list_extend mt_extend (pv 24) (pa_cons (pe_lst (pa_cons (pe_tup (pa_cons (pv 4) (pa_cons (pe_tup (pa_cons pe_int (pa_cons (pv 6) (pa_cons (pv 7) pa_nil)))) pa_nil))) (pa_cons (pe_tup (pa_cons (pv 4) (pa_cons (pe_tup (pa_cons (pv 5) (pa_cons (pv 6) (pa_cons (pe_op op_plus (pe_slice sl_all (pv 7) po_none (po_some (pe_un un_neg pe_int))) (pe_lst (pa_cons (pe_op op_plus (pe_df D__law_f_ones (hr.mono (by decide)) (by rfl) (pa_cons (pv 5) pa_nil)) pe_int) pa_nil))) pa_nil)))) pa_nil))) (pa_cons (pe_tup (pa_cons (pv 4) pa_nil)) (pa_cons pe_non (pa_cons pe_int (pa_cons (pe_tup (pa_cons (pv 4) (pa_cons pe_non pa_nil))) pa_nil))))))) pa_nil))) (pss_cons (ps_for PassesOwn.never rfl (pi_lt (pe_df D__law_mixed (hr.mono (by decide)) (by rfl) (pa_cons (pv 1) (pa_cons (pv 24) pa_nil)))) (pg_name (i := 25) sc_75.nd rfl (Or.inl rfl)) (pss_cons (ps_set (i := 26) sc_75.nd rfl (Or.inl rfl) (pe_and (pe_cmp (pc_notN (pv 25)) rfl) (pe_and (pe_callB call_isiT (by rfl) m_isinstance (by decide +kernel) (pa_cons (pv 25) (pa_cons (pe_tup (pa_cons (pe_bltn (v := .ty "list") (by rfl) m_list (by decide +kernel) rfl) (pa_cons (pe_bltn (v := .ty "tuple") (by rfl) m_tuple (by decide +kernel) rfl) pa_nil))) pa_nil))) (pe_and (pe_cmpR (op_eqs hr.units) (pe_callB cr_len (by rfl) m_len (by decide +kernel) (pa_cons (pv 25) pa_nil)) pe_int (nomark _)) (pe_and (pe_df D__law_is_number (hr.mono (by decide)) (by rfl) (pa_cons (pe_ix ix_seq (pv 25) pe_int (fun _ _ => rfl)) (pa_cons pe_non pa_nil))) (pe_and (pe_cmpR op_gt (pe_ix ix_seq (pv 25) pe_int (fun _ _ => rfl)) pe_int (nomark _)) (pe_one (pe_cmp (pc_notN (pe_ix ix_seq (pv 25) pe_int (fun _ _ => rfl))) rfl)))))))) (pss_cons (ps_if (pt_truth (pv 26) (by intro _; rfl)) (pss_cons (ps_asg (pe_ix ix_seq (pv 25) pe_int (fun _ _ => rfl)) (pg_or (pg_tup rfl (pgs_cons (pg_name (i := 27) sc_75.nd rfl (Or.inr rfl)) (pgs_cons (pg_name (i := 28) sc_75.nd rfl (Or.inl rfl)) (pgs_cons (pg_name (i := 22) sc_75.nd rfl (Or.inl rfl)) pgs_nil)))) (pg_lst rfl (pgs_cons (pg_name (i := 27) sc_75.nd rfl (Or.inr rfl)) (pgs_cons (pg_name (i := 28) sc_75.nd rfl (Or.inl rfl)) (pgs_cons (pg_name (i := 22) sc_75.nd rfl (Or.inl rfl)) pgs_nil)))))) (pss_one (ps_set (i := 26) sc_75.nd rfl (Or.inl rfl) (pe_and (pe_cmpR op_gt (pv 27) pe_int (nomark _)) (pe_and (pe_cmpR op_gt (pv 28) pe_int (nomark _)) (pe_and (pe_callB (cr_all rfl) (by rfl) m_all (by decide +kernel) (pa_cons (pe_lc (own := [("one", 29)]) (g := (gName 29)) (tt := tYes) (te := (tOp (rI0 fun i j => .bl (decide (i ≤ j))) (tVar 29) (tCall (spD 1 f_58) [] E0 (tCons (tVar 27) tNil)))) rfl sc_75.nd (pi_lt (pv 22)) (blkOk_by (own := [("one", 29)]) (N := ["script", "stream", "turn", "fresh", "count", "width", "block", "cells", "size", "image", "blocks", "given", "told", "tolds", "ring", "k", "at", "handed", "was", "whys", "slot", "due", "own", "odd", "things", "thing", "right", "w", "b", "one"]) (sc := defScope (top 75)) (by decide +kernel)) (fun _ _ _ _ _ => (pg_name (i := 29) sc_75.nd rfl (Or.inl rfl))) (fun _ _ _ _ _ => pts_nil) (fun _ _ _ _ _ => (pe_cmpR op_le (pv 29) (pe_df D__law_f_ones (hr.mono (by decide)) (by rfl) (pa_cons (pv 27) pa_nil)) (nomark _)))) pa_nil)) (pe_and (pe_cmpR op_ge (pe_callB cr_len (by rfl) m_len (by decide +kernel) (pa_cons (pv 22) pa_nil)) (pe_op op_times (pe_op op_times pe_int (pe_ix ix_seq (pv 25) pe_int (fun _ _ => rfl))) (pv 28)) (nomark _)) (pe_one (pe_cmpR (op_eqs hr.units) (pe_op op_mod (pe_callTy call_int1 (by rfl) m_int (by decide +kernel) (pa_cons (pe_callB cr_len (by rfl) m_len (by decide +kernel) (pa_cons (pv 22) pa_nil)) pa_nil)) (pe_op op_times (pe_ix ix_seq (pv 25) pe_int (fun _ _ => rfl)) (pv 28))) pe_int (nomark _)))))))))) pss_nil) (pss_one (ps_if (pt_not (pt_val (pe_df D__law_same (hr.mono (by decide)) (by rfl) (pa_cons (pe_lst (pa_cons (pe_df D_is_ring (hr.mono (by decide)) (by rfl) (pa_cons (pe_df D__law_copied (hr.mono (by decide)) (by rfl) (pa_cons (pv 25) pa_nil)) pa_nil)) (pa_cons (pe_dfk0 DK_is_ring_0_thing (hr.mono (by decide)) (by rfl) (pk_cons (pe_df D__law_copied (hr.mono (by decide)) (by rfl) (pa_cons (pv 25) pa_nil)) pk_nil)) pa_nil))) (pa_cons (pe_lst (pa_cons (pv 26) (pa_cons (pv 26) pa_nil))) pa_nil))))) (pss_one (ps_ret pe_bl)) pss_nil))))) (pss_one (ps_if (pt_not (pt_val (pe_df D__law_same (hr.mono (by decide)) (by rfl) (pa_cons (pv 17) (pa_cons (pv 18) pa_nil))))) (pss_one (ps_ret pe_bl)) pss_nil))))))))))))))))))))))) (pss_one (ps_ret pe_bl))), (rs_seq (rs_forR [false, false, false, false, false, false, false, false, false, false, false, false, false, false, false, false, false, false, false, false, false, false, false, false, false, false, false, false, false, false] (ri0_rng1 (ra_cons (re_int 3) ra_nil)) (rgo_name 2) (rs_seq (rs_set 3 [false, true, false, false, false, false, false, false, false, false, false, false, false, false, false, false, false, false, false, false, false, false, false, false, false, false, false, false, false, false] (re_call (ra_cons (re_var 1) ra_nil))) (rs_seq (rs_asg [false, false, false, true, false, false, false, false, false, false, false, false, false, false, false, false, false, false, false, false, false, false, false, false, false, false, false, false, false, false] (re_var 3) (rgo_seq (rgos_cons (rgo_name 4) (rgos_cons (rgo_seq (rgos_cons (rgo_name 5) (rgos_cons (rgo_name 6) (rgos_cons (rgo_name 7) rgos_nil)))) rgos_nil)))) (rs_seq (rs_set 8 [false, false, false, false, true, false, false, true, false, false, false, false, false, false, false, false, false, false, false, false, false, false, false, false, false, false, false, false, false, false] (re_op opd_i (re_cb cbd_len (ra_cons (re_var 7) ra_nil)) (re_var 4))) (rs_seq (rs_set 9 [false, false, false, true, false, false, false, false, false, false, false, false, false, false, false, false, false, false, false, false, false, false, false, false, false, false, false, false, false, false] (re_call (ra_cons (re_var 3) (ra_cons (re_int 0) ra_nil)))) (rs_seq (rs_asg [false, true, false, false, false, false, true, false, true, true, false, false, false, false, false, false, false, false, false, false, false, false, false, false, false, false, false, false, false, false] (re_tup (ra_cons (re_op opd_i (re_var 8) (re_var 6)) (ra_cons (re_call (ra_cons (re_var 1) (ra_cons (re_var 9) ra_nil))) ra_nil))) (rgo_seq (rgos_cons (rgo_name 10) (rgos_cons (rgo_name 11) rgos_nil)))) (rs_seq (rs_if [false, true, false, true, true, true, true, false, false, true, true, true, false, false, false, false, false, false, false, false, false, false, false, false, false, false, false, false, false, false] (rt_not (rt_b (N4.re_tw (n := 5) (is := 1) (re_var 3) (re_call (ra_cons (re_var 0) (ra_cons (re_var 1) (ra_cons (re_var 2) (ra_cons (re_var 3) (ra_cons (re_var 4) ra_nil)))))) (re_callK ra_nil (ra_cons (re_cb cbd_list (ra_cons (re_var 4) ra_nil)) (ra_cons (re_var 0) (ra_cons (re_var 1) (ra_cons (re_var 2) (ra_cons (re_var 3) ra_nil))))))))) (rs_ret [false, false, false, false, false, false, false, false, false, false, false, false, false, false, false, false, false, false, false, false, false, false, false, false, false, false, false, false, false, false] (re_bl false)) rs_next) (rs_seq (rs_set 13 [false, true, false, true, false, false, false, false, false, false, false, false, true, false, false, false, false, false, false, false, false, false, false, false, false, false, false, false, false, false] (re_lc (vs := [12]) (ri_lt (re_op opd_ix (re_call (ra_cons (re_var 1) (ra_cons (re_var 3) (ra_cons (re_int 7) ra_nil)))) (re_int 1))) (rg_name 12 (by decide)) (rt_test (re_op opd_eq (re_op opd_ix (re_var 12) (re_int 0)) (re_str "done"))) (re_var 12))) (rs_seq (rs_set 14 [false, false, false, true, false, false, false, false, false, false, false, false, false, true, false, false, false, false, false, false, false, false, false, false, false, false, false, false, false, false] (re_if (rt_test (re_op opd_ne (re_var 13) (re_lst ra_nil))) (re_op opd_ix (re_op opd_ix (re_var 13) (re_un und_i (re_int 1))) (re_int 2)) (re_var 3))) (rs_seq (rs_set 7 [false, false, false, false, false, false, false, false, false, false, false, false, false, false, true, false, false, false, false, false, false, false, false, false, false, false, false, false, false, false] (re_cb cbd_list (ra_cons (re_op opd_ix (re_op opd_ix (re_var 14) (re_int 1)) (re_int 2)) ra_nil))) (rs_seq (rs_forR [false, true, false, false, false, false, false, false, false, false, false, false, false, false, false, false, false, false, false, false, false, false, false, false, false, false, false, false, false, false] (ri0_rng1 (ra_cons (re_call (ra_cons (re_var 1) (ra_cons (re_int 5) ra_nil))) ra_nil)) (rgo_name 15) (rs_seq (rs_set 16 [false, true, false, false, true, false, false, false, true, false, false, false, false, false, false, false, false, false, false, false, false, false, false, false, false, false, false, false, false, false] (re_op opd_plus (re_op opd_times (re_call (ra_cons (re_var 1) (ra_cons (re_var 4) ra_nil))) (re_var 8)) (re_call (ra_cons (re_var 1) (ra_cons (re_lst (ra_cons (re_int 0) (ra_cons (re_int 1) (ra_cons (re_int 2) (ra_cons (re_int 3) (ra_cons (re_int 4) (ra_cons (re_op opd_i0 (re_var 8) (re_int 1)) (ra_cons (re_call (ra_cons (re_var 1) (ra_cons (re_var 8) ra_nil))) ra_nil)))))))) ra_nil))))) (rs_sub 7 [false, true, false, false, false, true, false, true, false, false, false, false, false, false, false, false, true, false, false, false, false, false, false, false, false, false, false, false, false, false] (re_call (ra_cons (re_var 1) (ra_cons (re_lst (ra_cons (re_int 0) (ra_cons (re_int 1) (ra_cons (re_call (ra_cons (re_var 5) ra_nil)) (ra_cons (re_call (ra_cons (re_var 5) ra_nil)) (ra_cons (re_op opd_ix (re_var 7) (re_var 16)) ra_nil)))))) ra_nil))) (re_var 16)))) (rs_seq (rs_set 14 [false, false, false, false, true, true, true, true, false, false, false, false, false, false, false, false, false, false, false, false, false, false, false, false, false, false, false, false, false, false] (re_tup (ra_cons (re_var 4) (ra_cons (re_tup (ra_cons (re_var 5) (ra_cons (re_var 6) (ra_cons (re_var 7) ra_nil)))) ra_nil)))) (rs_seq (rs_set 17 [false, true, false, false, false, false, false, false, false, false, false, false, false, false, true, false, false, false, false, false, false, false, false, false, false, false, false, false, false, false] (re_call (ra_cons (re_var 1) (ra_cons (re_var 14) ra_nil)))) (rs_seq (rs_par3 18 19 20 [false, false, false, false, false, false, false, false, false, false, false, false, false, false, true, false, false, true, false, false, false, false, false, false, false, false, false, false, false, false] (ra_cons (re_call (ra_cons (re_var 17) ra_nil)) (ra_cons (re_call (ra_cons (re_var 14) ra_nil)) (ra_cons (re_call (ra_cons (re_var 14) ra_nil)) ra_nil)))) (rs_seq (rs_set 21 [false, false, false, false, false, false, false, false, false, false, false, false, false, false, true, false, false, false, false, false, true, false, false, false, false, false, false, false, false, false] (re_if (rt_b (re_isN (re_var 20))) (re_tup (ra_cons (re_str "none") ra_nil)) (re_tup (ra_cons (re_str "run") (ra_cons (re_var 20) (ra_cons (re_op opd_ix (re_call (ra_cons (re_var 14) (ra_cons (re_var 20) ra_nil))) (re_int 0)) ra_nil)))))) (rs_seq (rs_if [false, true, false, false, false, false, false, false, false, false, false, false, false, false, true, false, false, true, false, true, false, true, false, false, false, false, false, false, false, false] (rt_or (rt_not (rt_b (N4.re_tw (n := 5) (is := 1) (re_var 21) (re_call (ra_cons (re_var 0) ra_nil)) (re_callK ra_nil (ra_cons (re_call (ra_cons (re_var 0) ra_nil)) ra_nil))))) (rt_not (rt_b (N4.re_tw (n := 5) (is := 1) (re_var 19) (re_call (ra_cons (re_var 0) ra_nil)) (re_callK ra_nil (ra_cons (re_call (ra_cons (re_var 0) ra_nil)) ra_nil)))))) (rs_ret [false, false, false, false, false, false, false, false, false, false, false, false, false, false, false, false, false, false, false, false, false, false, false, false, false, false, false, false, false, false] (re_bl false)) rs_next) (rs_seq (rs_forR [false, false, false, false, true, false, false, false, false, false, false, false, false, false, false, false, false, false, false, false, false, false, false, false, false, false, false, false, false, false] (ri0_rng1 (ra_cons (re_var 4) ra_nil)) (rgo_name 20) (rs_seq (rs_set 22 [false, false, false, false, false, false, false, false, false, false, false, false, false, false, true, false, false, false, false, false, true, false, false, false, false, false, false, false, false, false] (re_call (ra_cons (re_var 14) (ra_cons (re_var 20) ra_nil)))) (rs_if [false, false, false, false, false, false, false, false, false, false, false, false, false, false, true, false, false, true, false, false, true, false, true, false, false, false, false, false, false, false] (rt_not (rt_b (re_call (ra_cons (re_lst (ra_cons (re_call (ra_cons (re_var 17) (ra_cons (re_var 20) ra_nil))) (ra_cons (re_callK ra_nil (ra_cons (re_var 20) (ra_cons (re_call (ra_cons (re_var 14) ra_nil)) ra_nil))) ra_nil))) (ra_cons (re_lst (ra_cons (re_var 22) (ra_cons (re_var 22) ra_nil))) ra_nil))))) (rs_ret [false, false, false, false, false, false, false, false, false, false, false, false, false, false, false, false, false, false, false, false, false, false, false, false, false, false, false, false, false, false] (re_bl false)) rs_next))) (rs_seq (rs_set 23 [false, true, false, false, false, false, false, true, false, false, false, false, false, false, false, false, false, false, false, false, false, false, false, false, false, false, false, false, false, false] (re_sl (re_var 7) ro_none (ro_some (re_call (ra_cons (re_var 1) (ra_cons (re_cb cbd_len (ra_cons (re_var 7) ra_nil)) ra_nil)))))) (rs_seq (rs_set 24 [false, false, false, false, true, true, true, true, false, false, false, false, false, false, true, false, false, true, false, false, false, false, false, true, false, false, false, false, false, false] (re_lst (ra_cons (re_var 17) (ra_cons (re_tup (ra_cons (re_var 4) (ra_cons (re_tup (ra_cons (re_var 5) (ra_cons (re_var 6) (ra_cons (re_var 23) ra_nil)))) ra_nil))) (ra_cons (re_tup (ra_cons (re_op opd_plus (re_var 4) (re_int 1)) (ra_cons (re_op opd_ix (re_var 14) (re_int 1)) ra_nil))) (ra_cons (re_tup (ra_cons (re_int 1) (ra_cons (re_op opd_ix (re_var 14) (re_int 1)) ra_nil))) (ra_cons (re_tup (ra_cons (re_bl true) (ra_cons (re_op opd_ix (re_var 14) (re_int 1)) ra_nil))) (ra_cons (re_tup (ra_cons (re_var 4) (ra_cons (re_tup (ra_cons (re_var 5) (ra_cons (re_int 2) (ra_cons (re_var 7) ra_nil)))) ra_nil))) ra_nil)))))))) (rs_seq (rs_ext 24 [false, false, false, false, true, true, true, true, false, false, false, false, false, false, false, false, false, false, false, false, false, false, false, false, false, false, false, false, false, false] (re_lst (ra_cons (re_tup (ra_cons (re_var 4) (ra_cons (re_tup (ra_cons (re_int 3) (ra_cons (re_var 6) (ra_cons (re_var 7) ra_nil)))) ra_nil))) (ra_cons (re_tup (ra_cons (re_var 4) (ra_cons (re_tup (ra_cons (re_var 5) (ra_cons (re_var 6) (ra_cons (re_op opd_plus (re_sl (re_var 7) ro_none (ro_some (re_un und_i (re_int 1)))) (re_lst (ra_cons (re_op opd_plus (re_call (ra_cons (re_var 5) ra_nil)) (re_int 1)) ra_nil))) ra_nil)))) ra_nil))) (ra_cons (re_tup (ra_cons (re_var 4) ra_nil)) (ra_cons re_non (ra_cons (re_int 5) (ra_cons (re_tup (ra_cons (re_var 4) (ra_cons re_non ra_nil))) ra_nil)))))))) (rs_seq (rs_for [false, true, false, false, false, false, false, false, false, false, false, false, false, false, false, false, false, false, false, false, false, false, false, false, true, false, false, false, false, false] (ri_lt (re_call (ra_cons (re_var 1) (ra_cons (re_var 24) ra_nil)))) (rgo_name 25) (rs_seq (rs_set 26 [false, false, false, false, false, false, false, false, false, false, false, false, false, false, false, false, false, false, false, false, false, false, false, false, false, true, false, false, false, false] (re_and (re_notN (re_var 25)) (re_and (re_isLT (re_var 25)) (re_and (re_op opd_eq (re_cb cbd_len (ra_cons (re_var 25) ra_nil)) (re_int 2)) (re_and (re_call (ra_cons (re_op opd_ix (re_var 25) (re_int 0)) (ra_cons re_non ra_nil))) (re_and (re_op opd_b0 (re_op opd_ix (re_var 25) (re_int 0)) (re_int 1)) (re_notN (re_op opd_ix (re_var 25) (re_int 1))))))))) (rs_seq (rs_if [false, false, false, false, false, false, false, false, false, false, false, false, false, false, false, false, false, false, false, false, false, false, false, false, false, false, true, false, false, false] (rt_truth (re_var 26)) (rs_seq (rs_asg [false, false, false, false, false, false, false, false, false, false, false, false, false, false, false, false, false, false, false, false, false, false, false, false, false, true, false, false, false, false] (re_op opd_ix (re_var 25) (re_int 1)) (rgo_seq (rgos_cons (rgo_name 27) (rgos_cons (rgo_name 28) (rgos_cons (rgo_name 22) rgos_nil))))) (rs_set 26 [false, false, false, false, false, false, false, false, false, false, false, false, false, false, false, false, false, false, false, false, false, false, true, false, false, true, false, true, true, true] (re_and (re_op opd_b0 (re_var 27) (re_int 3)) (re_and (re_op opd_b0 (re_var 28) (re_int 2)) (re_and (re_cb cbd_all (ra_cons (re_lc (vs := [29]) (ri_lt (re_var 22)) (rg_name 29 (by decide)) rt_yes (re_op opd_b0 (re_var 29) (re_call (ra_cons (re_var 27) ra_nil)))) ra_nil)) (re_and (re_op opd_b0 (re_cb cbd_len (ra_cons (re_var 22) ra_nil)) (re_op opd_times (re_op opd_times (re_int 2) (re_op opd_ix (re_var 25) (re_int 0))) (re_var 28))) (re_op opd_eq (re_op opd_i (re_cb cbd_int (ra_cons (re_cb cbd_len (ra_cons (re_var 22) ra_nil)) ra_nil)) (re_op opd_times (re_op opd_ix (re_var 25) (re_int 0)) (re_var 28))) (re_int 0)))))))) rs_next) (rs_if [false, false, false, false, false, false, false, false, false, false, false, false, false, false, false, false, false, false, false, false, false, false, false, false, false, true, true, false, false, false] (rt_not (rt_b (re_call (ra_cons (re_lst (ra_cons (re_call (ra_cons (re_call (ra_cons (re_var 25) ra_nil)) ra_nil)) (ra_cons (re_callK ra_nil (ra_cons (re_call (ra_cons (re_var 25) ra_nil)) ra_nil)) ra_nil))) (ra_cons (re_lst (ra_cons (re_var 26) (ra_cons (re_var 26) ra_nil))) ra_nil))))) (rs_ret [false, false, false, false, false, false, false, false, false, false, false, false, false, false, false, false, false, false, false, false, false, false, false, false, false, false, false, false, false, false] (re_bl false)) rs_next)))) (rs_if [false, false, false, false, false, false, false, false, false, false, false, false, false, false, false, false, false, true, true, false, false, false, false, false, false, false, false, false, false, false] (rt_not (rt_b (re_call (ra_cons (re_var 17) (ra_cons (re_var 18) ra_nil))))) (rs_ret [false, false, false, false, false, false, false, false, false, false, false, false, false, false, false, false, false, false, false, false, false, false, false, false, false, false, false, false, false, false] (re_bl false)) rs_next)))))))))))))))))))))) (rs_ret [false, false, false, false, false, false, false, false, false, false, false, false, false, false, false, false, false, false, false, false, false, false, false, false, false, false, false, false, false, false] (re_bl true)))⟩) hg
end
end M4
set_option Elab.async false
set_option linter.all false
set_option maxRecDepth 100000
set_option maxHeartbeats 4000000
/-! loops by what stays true; words -/
namespace M4
open PySem L2 DL
open N4 (top fDraw fMixed fSame dpD dpDs fitD fitDs)
theorem for_inv {fg : DG} {fb : DS} {K : DEnds} (I : List Dat → DSt → Int → Prop) (h0 : ∀ D n, I [] D n → K.nx D n)
    (hs : ∀ d l (nx : DSt → Int → Prop), (∀ D n, I l D n → nx D n) → ∀ D n, I (d :: l) D n → fg d D fun D' => fb { nx := nx, rt := K.rt, bk := K.nx, ct := nx } D' n) : ∀ l D n, I l D n → dForGo fg fb K l D n
  | [], D, n, h => h0 D n h
  | d :: l, D, n, h => hs d l _ (for_inv I h0 hs l) D n h
theorem lc_inv {fg : DG} {ft : DT} {fe : DE} {D : DSt} {Q : List Dat → Int → Prop} (I : List Dat → List Dat → Int → Prop) (h0 : ∀ acc n, I [] acc n → Q acc n)
    (hs : ∀ d l (R : List Dat → Int → Prop), (∀ acc n, I l acc n → R acc n) → ∀ acc n, I (d :: l) acc n → fg d D fun D' => ft D' n fun b n1 => if b = true then fe D' n1 fun x n2 => R (acc ++ [x]) n2 else R acc n1) : ∀ l acc n, I l acc n → dLcGo fg ft fe D l n acc Q
  | [], acc, n, h => h0 acc n h
  | d :: l, acc, n, h => hs d l (fun acc n => dLcGo fg ft fe D l n acc Q) (lc_inv I h0 hs l) acc n h
theorem wh_inv {R : List Bool} {fc : DT} {fb : DS} {K : DEnds} (I : Nat → DSt → Int → Prop) (h0 : ∀ D n, ¬ I 0 D n)
    (hs : ∀ k (nx : DSt → Int → Prop), (∀ D n, I k D n → nx D n) → ∀ D n, I (k + 1) D n → fc (viewD R D) n fun b n1 => if b = true then fb { nx := nx, rt := K.rt, bk := K.nx, ct := nx } D n1 else K.nx D n1) : ∀ k D n, I k D n → dWhGo R fc fb K k D n
  | 0, D, n, h => (h0 D n h).elim
  | k + 1, D, n, h => hs k _ (wh_inv I h0 hs k) D n h
/-- whole numbers as data -/
def il (l : List Int) : List Dat := l.map fun i => .int i
theorem il_nil : il [] = [] := rfl
theorem il_cons (x : Int) (l : List Int) : il (x :: l) = .int x :: il l := rfl
theorem il_len (l : List Int) : (il l).length = l.length := List.length_map ..
theorem il_app (l m : List Int) : il (l ++ m) = il l ++ il m := List.map_append ..
theorem il_shs : ∀ l : List Int, shs (il l) = il l
  | [] => rfl
  | x :: l => by rw [il_cons, shs, il_shs l]; rfl
theorem il_closs : ∀ l : List Int, closs (il l) = true
  | [] => rfl
  | x :: l => by rw [il_cons, closs, il_closs l]; rfl
theorem il_nss : ∀ l : List Int, nss (il l) = true
  | [] => rfl
  | x :: l => by rw [il_cons, nss, il_nss l]; rfl
theorem il_take (k : Nat) (l : List Int) : (il l).take k = il (l.take k) := List.map_take.symm
theorem il_drop (k : Nat) (l : List Int) : (il l).drop k = il (l.drop k) := List.map_drop.symm
theorem il_at (l : List Int) (i : Nat) : (il l)[i]? = (l[i]?).map fun x => Dat.int x := List.getElem?_map ..
theorem il_inj {l m : List Int} (h : il l = il m) : l = m := by
  have : ∀ l m : List Int, il l = il m → l = m := by
    intro l
    induction l with
    | nil => intro m h; cases m with | nil => rfl | cons y m => cases h
    | cons x l ih =>
      intro m h
      cases m with
      | nil => cases h
      | cons y m =>
        rw [il_cons, il_cons] at h
        injection h with h1 h2
        injection h1 with h1
        rw [h1, ih m h2]
  exact this l m h
theorem cut_il (l : List Int) (lo hi : Option Int) : cutD (il l) lo hi = il ((l.drop (HT.sIx l.length 0 lo)).take (HT.sIx l.length l.length hi - HT.sIx l.length 0 lo)) := by
  unfold cutD
  rw [il_len, il_drop, il_take]
theorem at_nat {α : Type} (l : List α) (i : Nat) : atI l (i : Int) = l[i]? := by
  unfold atI ixN
  by_cases h : i < l.length
  · rw [if_pos (by omega), if_pos (by omega)]
    rfl
  · rw [if_pos (by omega), if_neg (by omega), List.getElem?_eq_none (by omega)]
    rfl
theorem rng_cons (lo : Int) (k : Nat) : rngD lo (k + 1) = .int lo :: rngD (lo + 1) k := by
  unfold rngD
  rw [List.range_succ_eq_map, List.map_cons, List.map_map]
  congr 1
  · simp
  · apply List.map_congr_left
    intro a _
    simp only [Function.comp, Dat.int.injEq]
    omega
theorem rng_zero (lo : Int) : rngD lo 0 = [] := rfl
theorem rng_len (lo : Int) (k : Nat) : (rngD lo k).length = k := by unfold rngD; rw [List.length_map, List.length_range]
section
variable {n : Int} {Q : Dat → Int → Prop}
abbrev on (w : Nat) : Int := 2 ^ w - 1
theorem p2pos (w : Nat) : (1 : Int) ≤ 2 ^ w := by
  have : (1 : Nat) ≤ 2 ^ w := Nat.one_le_two_pow
  exact_mod_cast this
theorem p2le {w k : Nat} (h : w ≤ k) : (2 : Int) ^ w ≤ 2 ^ k := by
  have : (2 : Nat) ^ w ≤ 2 ^ k := Nat.pow_le_pow_right (by decide) h
  exact_mod_cast this
theorem p2s (w : Nat) : (2 : Int) ^ (w + 1) = 2 * 2 ^ w := by rw [Int.pow_succ]; omega
theorem w_58 (w : Nat) (hw : w ≤ 60) (k : Q (.int (on w)) n) : f_58 [.int w] n Q := by
  unfold f_58 b_58
  simp!
  refine ⟨by omega, by omega, ?_⟩
  rw [Int.toNat_natCast]
  refine for_inv (fun l D m => ∃ (i : Nat) (o : Option Dat), l.length + i = w ∧ D = [some (.int w), some (.int (on i)), o] ∧ m = n) ?_ ?_ _ _ _ ⟨0, none, by rw [rng_len]; omega, rfl, rfl⟩
  · rintro D m ⟨i, o, h1, rfl, rfl⟩
    have : i = w := by simpa using h1
    subst this
    simp!
    exact k
  · rintro d l nx hn D m ⟨i, o, h1, rfl, rfl⟩
    simp!
    refine ⟨.inl (by decide), hn _ _ ⟨i + 1, some d, by rw [List.length_cons] at h1; omega, ?_, rfl⟩⟩
    · simp only [List.cons.injEq, Option.some.injEq, Dat.int.injEq, and_true, true_and]
      have := p2s i
      unfold on
      omega
end
end M4
set_option Elab.async false
set_option linter.all false
set_option maxRecDepth 100000
set_option maxHeartbeats 4000000
/-! marks, sums, looks -/
namespace M4
open PySem L2 DL
open N4 (top fDraw fMixed fSame dpD dpDs fitD fitDs)
section
variable {n : Int} {Q : Dat → Int → Prop}
theorem w_16 (w : Nat) (hw : w ≤ 60) (k : Q (.int (on w)) n) : f_16 [.int w] n Q := by
  unfold f_16 b_16
  simp!
  refine ⟨⟨by omega, by omega, by decide⟩, ?_⟩
  rw [Int.toNat_natCast, Int.one_mul]
  exact k
/-- every second bit -/
def mk : Nat → Int
  | 0 => 0
  | i + 1 => mk i + (if i % 2 = 0 then 2 ^ i else 0)
theorem w_56 (w : Nat) (hw : w ≤ 60) (k : Q (.int (mk w)) n) : f_56 [.int w] n Q := by
  unfold f_56 b_56
  simp!
  refine ⟨by omega, by omega, ?_⟩
  rw [Int.toNat_natCast]
  refine for_inv (fun l D m => ∃ (i : Nat) (o : Option Dat), i ≤ w ∧ l = rngD i (w - i) ∧ D = [some (.int w), some (.int (mk i)), some (.int (2 ^ i)), o] ∧ m = n) ?_ ?_ _ _ _ ⟨0, none, by omega, by rw [Nat.sub_zero]; rfl, rfl, rfl⟩
  · rintro D m ⟨i, o, h1, h2, rfl, rfl⟩
    have : w - i = 0 := by
      have := congrArg List.length h2
      rw [rng_len] at this
      exact this.symm
    have : i = w := by omega
    subst this
    simp!
    exact k
  · rintro d l nx hn D m ⟨i, o, h1, h2, rfl, rfl⟩
    have : w - i = (w - (i + 1)) + 1 := by
      have := congrArg List.length h2
      rw [rng_len] at this
      rw [List.length_cons] at this
      omega
    rw [this, rng_cons] at h2
    injection h2 with h2 h3
    subst h2
    simp!
    have e1 : (i : Int) % 2 = 0 ↔ i % 2 = 0 := by omega
    have e2 := p2s i
    split
    · rename_i h
      rw [e1] at h
      refine ⟨.inl (by decide), hn _ _ ⟨i + 1, some (.int i), by omega, h3, ?_, rfl⟩⟩
      rw [mk, if_pos h, e2]
    · rename_i h
      rw [e1] at h
      refine ⟨.inl (by decide), hn _ _ ⟨i + 1, some (.int i), by omega, h3, ?_, rfl⟩⟩
      rw [mk, if_neg h, e2]
theorem w_23 (w : Nat) (h4 : 4 ≤ w) (h8 : w ≤ 8) (k : Q (.int (mk w)) n) : f_23 [.int w] n Q := by
  unfold f_23 b_23
  simp!
  have cs : w = 4 ∨ w = 5 ∨ w = 6 ∨ w = 7 ∨ w = 8 := by omega
  refine ⟨(w + 1) / 2, ?_, ?_, ?_⟩
  · rcases cs with rfl | rfl | rfl | rfl | rfl <;> exact ⟨by decide, by decide, by decide, by decide⟩
  · show ((List.range _).map _).length ≤ _
    rw [List.length_map, List.length_range]
    exact Nat.le_trans (show (w + 1) / 2 ≤ 4 by omega) (by decide)
  · refine lc_inv (fun l acc m => ∃ i ns, i ≤ (w + 1) / 2 ∧ l = ((List.range' i ((w + 1) / 2 - i)).map fun i : Nat => Dat.int (0 + (i : Int) * 2)) ∧ acc = il ns ∧ ns = (List.range i).map (fun i => (2 : Int) ^ (2 * i)) ∧ m = n) ?_ ?_ _ _ _ ⟨0, [], by omega, ?_, rfl, rfl, rfl⟩
    · rintro acc m ⟨i, ns, h1, h2, rfl, h3, rfl⟩
      have hi : i = (w + 1) / 2 := by
        have := congrArg List.length h2
        simp at this
        omega
      refine ⟨ns, il_shs _, ?_⟩
      have : ns.sum = mk w := by
        rw [h3, hi]
        rcases cs with rfl | rfl | rfl | rfl | rfl <;> decide
      rw [this]
      exact k
    · rintro d l R hR acc m ⟨i, ns, h1, h2, rfl, h3, rfl⟩
      have hi : (w + 1) / 2 - i = ((w + 1) / 2 - (i + 1)) + 1 := by
        have := congrArg List.length h2
        simp at this
        omega
      rw [hi, List.range'_succ, List.map_cons] at h2
      injection h2 with h2 h4
      subst h2
      simp!
      refine ⟨⟨by omega, by omega, by decide⟩, hR _ _ ⟨i + 1, ns ++ [2 ^ (2 * i)], by omega, h4, ?_, ?_, rfl⟩⟩
      · rw [il_app, il_cons, il_nil, show ((0 : Int) + (i : Int) * 2).toNat = 2 * i by omega, Int.one_mul]
      · rw [h3, List.range_succ, List.map_append]
        rfl
    · unfold rngDC
      rw [List.range_eq_range', Nat.sub_zero]
/-- the sums of words -/
def sm (m : Int) : Int × Int → List Int → Int × Int
  | p, [] => p
  | p, x :: l => sm m ((p.1 + x) % m, (p.2 + (p.1 + x) % m) % m) l
abbrev sums (w : Nat) (l : List Int) : Int × Int := sm (on w) (0, 0) l
theorem w_55 (w : Nat) (l : List Int) (h1 : 1 ≤ w) (h2 : w ≤ 60) (k : Q (.own [.int (sums w l).1, .int (sums w l).2]) n) : f_55 [.int w, .lst (il l)] n Q := by
  have hp : 0 < on w := by
    have := p2le h1
    unfold on
    omega
  unfold f_55 b_55
  simp!
  refine ⟨by omega, by omega, ?_⟩
  rw [Int.toNat_natCast]
  refine for_inv (fun r D m => ∃ (i : Nat) (o : Option Dat), r.length + i = w ∧ D = [some (.int w), some (.lst (il l)), some (.int (2 ^ i)), some (.int 0), some (.int 0), o, none] ∧ m = n) ?_ ?_ _ _ _ ⟨0, none, by rw [rng_len]; omega, rfl, rfl⟩
  · rintro D m ⟨i, o, e, rfl, rfl⟩
    have : i = w := by simpa using e
    subst this
    simp!
    refine for_inv (fun r D m' => ∃ (r' : List Int) (p : Int × Int) (o' : Option Dat), r = il r' ∧ sm (on i) p r' = sums i l ∧ D = [some (.int i), some (.lst (il l)), some (.int (2 ^ i)), some (.int p.1), some (.int p.2), o, o'] ∧ m' = m) ?_ ?_ _ _ _ ⟨l, (0, 0), none, rfl, rfl, rfl, rfl⟩
    · rintro D m' ⟨r', p, o', e1, e2, rfl, rfl⟩
      cases r' with
      | cons x r => cases e1
      | nil =>
        have e2 : p = sums i l := e2
        subst e2
        simp!
        exact k
    · rintro d r nx hn D m' ⟨r', p, o', e1, e2, rfl, rfl⟩
      cases r' with
      | nil => cases e1
      | cons x r' =>
        injection e1 with e1 e3
        subst e1
        simp!
        exact ⟨hp, hp, hn _ _ ⟨r', _, _, e3, e2, rfl, rfl⟩⟩
  · rintro d r nx hn D m ⟨i, o, e, rfl, rfl⟩
    simp!
    refine ⟨.inl (by decide), hn _ _ ⟨i + 1, some d, by rw [List.length_cons] at e; omega, ?_, rfl⟩⟩
    rw [p2s]
theorem w_18 (w : Nat) (l : List Int) (h1 : 1 ≤ w) (h2 : w ≤ 60) (k : Q (.tup [.int (sums w l).1, .int (sums w l).2]) n) : f_18 [.int w, .lst (il l)] n Q := by
  have hp : 0 < on w := by
    have := p2le h1
    unfold on
    omega
  unfold f_18 b_18
  simp!
  refine w_16 w h2 ?_
  refine for_inv (fun r D m' => ∃ (r' : List Int) (p : Int × Int) (o' : Option Dat), r = il r' ∧ sm (on w) p r' = sums w l ∧ D = [some (.int w), some (.lst (il l)), some (.int p.1), some (.int p.2), some (.int (on w)), o'] ∧ m' = n) ?_ ?_ _ _ _ ⟨l, (0, 0), none, rfl, rfl, rfl, rfl⟩
  · rintro D m' ⟨r', p, o', e1, e2, rfl, rfl⟩
    cases r' with
    | cons x r => cases e1
    | nil =>
      have e2 : p = sums w l := e2
      subst e2
      simp!
      exact k
  · rintro d r nx hn D m' ⟨r', p, o', e1, e2, rfl, rfl⟩
    cases r' with
    | nil => cases e1
    | cons x r' =>
      injection e1 with e1 e3
      subst e1
      simp!
      exact ⟨hp, hp, hn _ _ ⟨r', _, _, e3, e2, rfl, rfl⟩⟩
end
end M4
set_option Elab.async false
set_option linter.all false
set_option maxRecDepth 100000
set_option maxHeartbeats 4000000
/-! rings: what is kept -/
namespace M4
open PySem L2 DL
open N4 (top fDraw fMixed fSame dpD dpDs fitD fitDs)
section
variable {n : Int} {Q : Dat → Int → Prop}
/-- d is the list or the tuple of l -/
def Sq (d : Dat) (l : List Dat) : Prop := d = .lst l ∨ d = .tup l
theorem e_2i (i : Int) : f_2 [.int i] n Q = Q (.bl true) n := by unfold f_2 b_2; simp!
theorem e_3i (i : Int) : f_3 [.int i] n Q = Q (.bl (decide (0 ≤ i))) n := by
  unfold f_3 b_3
  simp!
  simp only [e_2i]
  simp!
theorem w_4i (i m : Int) (k : Q (.bl (decide (0 ≤ i) && decide (i < m))) n) : f_4 [.int i, .int m] n Q := by
  unfold f_4 b_4
  simp!
  simp only [e_3i]
  simp!
  by_cases h : 0 ≤ i
  · rw [if_pos h]
    simp only [decide_eq_true h, Bool.true_and] at k
    exact k
  · rw [if_neg h]
    simp only [decide_eq_false h, Bool.false_and] at k
    exact k
theorem e_5l (l : List Dat) (m : Int) : f_5 [.lst l, .int m] n Q = Q (.bl (decide ((l.length : Int) = m))) n := by
  unfold f_5 b_5 f_1 b_1
  simp!
theorem e_5t (l : List Dat) (hl : shs l = l) (m : Int) : f_5 [.tup l, .int m] n Q = Q (.bl (decide ((l.length : Int) = m))) n := by
  unfold f_5 b_5 f_1 b_1
  simp! [hl]
theorem w_5 {X : Dat} {l : List Dat} (h : Sq X l) (hl : shs l = l) (m : Int) (k : Q (.bl (decide ((l.length : Int) = m))) n) : f_5 [X, .int m] n Q := by
  rcases h with rfl | rfl
  · rw [e_5l]; exact k
  · rw [e_5t l hl]; exact k
/-- words of w bits -/
def wds (w : Nat) (l : List Int) : Bool := l.all fun x => decide (0 ≤ x) && decide (x < 2 ^ w)
theorem w_17 {X : Dat} {l : List Int} (h : Sq X (il l)) (w : Nat) (hw : w ≤ 60) (hl : l.length ≤ 1000) (k : Q (.bl (wds w l)) n) : f_17 [.int w, X] n Q := by
  have main : ∀ D : DSt, D = [some (.int w), some X, none] → dLcGo (dgName 2) dYes (dCall 2 f_4 (dCons (dVar 2) (dCons (dOp (dI CPow fun i j => Dat.int (i * 2 ^ j.toNat)) (dC (.int 1)) (dVar 0)) dNil))) D (il l) n [] fun acc m => ∃ bs : List Bool, shs acc = bs.map Dat.bl ∧ Q (.bl (bs.all id)) m := by
    rintro D rfl
    refine lc_inv (fun r acc m => ∃ (r' : List Int) (bs : List Bool), r = il r' ∧ acc = bs.map Dat.bl ∧ (bs.all id && wds w r') = wds w l ∧ m = n) ?_ ?_ _ _ _ ⟨l, [], rfl, rfl, by simp, rfl⟩
    · rintro acc m ⟨r', bs, e1, rfl, e3, rfl⟩
      cases r' with
      | cons x r => cases e1
      | nil =>
        refine ⟨bs, ?_, ?_⟩
        · rw [shs_map, List.map_map]; rfl
        · have e3 : (bs.all id && true) = wds w l := e3
          rw [Bool.and_true] at e3
          rw [e3]
          exact k
    · rintro d r R hR acc m ⟨r', bs, e1, rfl, e3, rfl⟩
      cases r' with
      | nil => cases e1
      | cons x r' =>
        injection e1 with e1 e4
        subst e1
        simp!
        refine ⟨⟨by omega, by omega, by decide⟩, w_4i _ _ (hR _ _ ⟨r', bs ++ [_], e4, by rw [List.map_append]; rfl, ?_, rfl⟩)⟩
        rw [← e3, List.all_append]
        show _ = (bs.all id && ((decide (0 ≤ x) && decide (x < 2 ^ w)) && wds w r'))
        simp only [List.all_cons, List.all_nil, id_eq, Bool.and_true, Bool.and_assoc, Int.toNat_natCast, Int.one_mul]
  unfold f_17 b_17 f_1 b_1
  rcases h with rfl | rfl
  · simp!
    refine ⟨by rw [il_len]; exact Nat.le_trans hl (by decide), main _ rfl⟩
  · simp! [il_shs]
    refine ⟨by rw [il_len]; exact Nat.le_trans hl (by decide), main _ rfl⟩
theorem sq_sh {X : Dat} {l : List Dat} (h : Sq X l) (hl : shs l = l) : X.sh = X := by
  rcases h with rfl | rfl
  · rfl
  · show Dat.tup (shs l) = _
    rw [hl]
theorem sq_ix {X : Dat} {l : List Dat} (h : Sq X l) (i : Int) (R : Dat → Prop) : dIx X (.int i) R = ∃ d, atI l i = some d ∧ R d := by
  rcases h with rfl | rfl <;> rfl
theorem sq_len {X : Dat} {l : List Dat} (h : Sq X l) (R : Dat → Prop) : dLen [X] R = R (.int l.length) := by
  rcases h with rfl | rfl <;> rfl
theorem sq_list {X : Dat} {l : List Dat} (h : Sq X l) (R : Dat → Prop) : dList [X] R = R (.own l) := by
  rcases h with rfl | rfl <;> rfl
theorem sq_items {X : Dat} {l : List Dat} (h : Sq X l) : X.items = some l := by
  rcases h with rfl | rfl <;> rfl
theorem sq_clos {X : Dat} {l : List Dat} (h : Sq X l) : X.isNon = false := by
  rcases h with rfl | rfl <;> rfl
theorem at3_0 {a b c : Dat} : atI [a, b, c] 0 = some a := rfl
theorem at3_1 {a b c : Dat} : atI [a, b, c] 1 = some b := rfl
theorem at3_2 {a b c : Dat} : atI [a, b, c] 2 = some c := rfl
theorem at2_0 {a b : Dat} : atI [a, b] 0 = some a := rfl
theorem at2_1 {a b : Dat} : atI [a, b] 1 = some b := rfl
theorem il_sh3 {Z : Dat} {l : List Int} (hZ : Sq Z (il l)) (w b : Int) : shs [Dat.int w, Dat.int b, Z] = [Dat.int w, Dat.int b, Z] := by
  show [Dat.int w, Dat.int b, Z.sh] = _
  rw [sq_sh hZ (il_shs l)]
theorem iteP {p : Prop} [Decidable p] {A B : Prop} (h1 : p → A) (h2 : ¬ p → B) : if p then A else B := by
  split
  · exact h1 ‹_›
  · exact h2 ‹_›
/-- a store as it is kept -/
def okS (w b : Int) (l : List Int) : Prop := 4 ≤ w ∧ w ≤ 16 ∧ 1 ≤ b ∧ wds w.toNat l = true ∧ 0 < l.length ∧ (l.length : Int) % b = 0
theorem w_21 {X Z : Dat} {w b : Int} {l : List Int} (hX : Sq X [.int w, .int b, Z]) (hZ : Sq Z (il l)) (hl : l.length ≤ 1000) (k1 : okS w b l → Q (.tup [.int w, .int b, .own (il l)]) n) (k2 : ¬ okS w b l → Q .non n) : f_21 [X] n Q := by
  have s1 := sq_sh hX (il_sh3 hZ w b)
  have s2 := sq_sh hZ (il_shs l)
  have i1 := sq_ix hX
  have l2 := sq_len hZ
  have t2 := sq_list hZ
  unfold f_21 b_21
  simp! [s1]
  refine w_5 hX (il_sh3 hZ w b) 3 ?_
  simp! [i1, s1, s2, at3_0, at3_1, at3_2, e_2i, l2, t2, il_len]
  by_cases c : okS w b l
  · have k := k1 c
    obtain ⟨a1, a2, a3, a4, a5, a6⟩ := c
    rw [if_pos a1, if_neg (by omega), if_neg (by omega)]
    obtain ⟨w', rfl⟩ : ∃ w' : Nat, w = w' := ⟨w.toNat, by omega⟩
    rw [Int.toNat_natCast] at a4
    refine w_17 hZ w' (by omega) hl ?_
    rw [a4]
    simp!
    rw [if_pos (by omega), if_pos a6]
    exact ⟨by omega, k⟩
  · have k := k2 c
    refine iteP (fun a1 => ?_) fun _ => k
    refine iteP (fun _ => k) fun a2 => ?_
    refine iteP (fun _ => k) fun a3 => ?_
    obtain ⟨w', rfl⟩ : ∃ w' : Nat, w = w' := ⟨w.toNat, by omega⟩
    refine w_17 hZ w' (by omega) hl ?_
    simp!
    refine iteP (fun _ => k) fun a4 => ?_
    refine iteP (fun a5 => ?_) fun _ => k
    refine ⟨by omega, iteP (fun a6 => ?_) fun _ => k⟩
    refine (c ⟨a1, by omega, by omega, ?_, by omega, a6⟩).elim
    rw [Int.toNat_natCast]
    simpa using a4
/-- a ring as it is kept -/
def okR (c w b : Int) (l : List Int) : Prop := 2 ≤ c ∧ okS w b l ∧ 3 ≤ b ∧ 2 * c * b ≤ l.length ∧ (l.length : Int) % (c * b) = 0
theorem w_29 {X Y Z : Dat} {c w b : Int} {l : List Int} (hX : Sq X [.int c, Y]) (hY : Sq Y [.int w, .int b, Z]) (hZ : Sq Z (il l)) (hl : l.length ≤ 1000) (hc : c ≤ 1000) (hb : b ≤ 1000) (k1 : okR c w b l → Q (.tup [.int c, .tup [.int w, .int b, .lst (il l)]]) n) (k2 : ¬ okR c w b l → Q .non n) : f_29 [X] n Q := by
  have s2 := sq_sh hY (il_sh3 hZ w b)
  have hs : shs [Dat.int c, Y] = [Dat.int c, Y] := by
    show [Dat.int c, Y.sh] = _
    rw [s2]
  have s1 := sq_sh hX hs
  have i1 := sq_ix hX
  unfold f_29 b_29
  simp! [s1]
  refine w_5 hX hs 2 ?_
  simp! [i1, at2_0, at2_1, e_2i, s1, s2]
  by_cases a1 : c < 2
  · rw [if_pos a1]
    exact k2 fun z => by have := z.1; omega
  rw [if_neg a1]
  refine w_21 hY hZ hl (fun h => ?_) fun h => ?_
  · simp! [il_shs, il_closs, at3_1, at3_2, at2_0, il_len, s1, i1]
    have a2 := h.2.2.1
    by_cases a3 : b < 3
    · rw [if_pos a3]
      exact k2 fun z => by have := z.2.2.1; omega
    rw [if_neg a3]
    have cb : 0 < c * b := Int.mul_pos (by omega) (by omega)
    have e : 2 * c * b = 2 * (c * b) := Int.mul_assoc ..
    refine ⟨.inl ⟨by omega, by omega⟩, .inl ⟨by decide, by decide⟩, iteP (fun a4 => ⟨cb, iteP (fun a5 => k1 ⟨by omega, h, by omega, by omega, a5⟩) fun a5 => k2 fun z => a5 z.2.2.2.2⟩) fun a4 => k2 fun z => ?_⟩
    have := z.2.2.2.1
    omega
  · simp!
    exact k2 fun z => h z.2.1
theorem w_30 {X Y Z : Dat} {c w b : Int} {l : List Int} (hX : Sq X [.int c, Y]) (hY : Sq Y [.int w, .int b, Z]) (hZ : Sq Z (il l)) (hl : l.length ≤ 1000) (hc : c ≤ 1000) (hb : b ≤ 1000) (k1 : okR c w b l → Q (.bl true) n) (k2 : ¬ okR c w b l → Q (.bl false) n) : f_30 [X] n Q := by
  have s1 := sq_sh hX (show shs [Dat.int c, Y] = [Dat.int c, Y] by show [Dat.int c, Y.sh] = _; rw [sq_sh hY (il_sh3 hZ w b)])
  unfold f_30 b_30
  simp! [s1]
  refine w_29 hX hY hZ hl hc hb (fun h => ?_) fun h => ?_
  · simp!
    exact k1 h
  · simp!
    exact k2 h
/-- the ring as it is kept -/
def rg (c w b : Int) (l : List Int) : Dat := .tup [.int c, .tup [.int w, .int b, .lst (il l)]]
theorem rg_sh (c w b : Int) (l : List Int) : (rg c w b l).sh = rg c w b l := by
  unfold rg
  simp only [Dat.sh, shs]
theorem w_31 {X Y Z : Dat} {c w b : Int} {l : List Int} (hX : Sq X [.int c, Y]) (hY : Sq Y [.int w, .int b, Z]) (hZ : Sq Z (il l)) (hl : l.length ≤ 1000) (hc : c ≤ 1000) (hb : b ≤ 1000) (h : okR c w b l) (k1 : Q (rg c w b l) n) : f_31 [X] n Q := by
  have s1 := sq_sh hX (show shs [Dat.int c, Y] = [Dat.int c, Y] by show [Dat.int c, Y.sh] = _; rw [sq_sh hY (il_sh3 hZ w b)])
  unfold f_31 b_31
  simp! [s1]
  refine w_29 hX hY hZ hl hc hb (fun _ => ?_) fun h' => (h' h).elim
  simp!
  exact k1
/-! odd things are no rings -/
theorem x_ring_non (k : Q (.bl false) n) : f_30 [.non] n Q := by
  unfold f_30 b_30 f_29 b_29 f_5 b_5 f_1 b_1
  simp!
  exact k
theorem x_ring_int (i : Int) (k : Q (.bl false) n) : f_30 [.int i] n Q := by
  unfold f_30 b_30 f_29 b_29 f_5 b_5 f_1 b_1
  simp!
  exact k
theorem x_ring_1 {X : Dat} {i : Int} (hX : Sq X [.int i]) (k : Q (.bl false) n) : f_30 [X] n Q := by
  have s1 := sq_sh hX rfl
  unfold f_30 b_30 f_29 b_29
  simp! [s1]
  refine w_5 hX rfl 2 ?_
  simp!
  exact k
theorem x_ring_bl {X Y : Dat} {i : Bool} (hX : Sq X [.bl i, Y]) (hY : Y.sh = Y) (k : Q (.bl false) n) : f_30 [X] n Q := by
  have hs : shs [Dat.bl i, Y] = [Dat.bl i, Y] := by
    show [Dat.bl i, Y.sh] = _
    rw [hY]
  have s1 := sq_sh hX hs
  have i1 := sq_ix hX
  unfold f_30 b_30 f_29 b_29
  simp! [s1]
  refine w_5 hX hs 2 ?_
  unfold f_2 b_2
  simp! [s1, i1, at2_0]
  exact k
theorem x_ring_c1 {X Y : Dat} {i : Int} (hi : i < 2) (hX : Sq X [.int i, Y]) (hY : Y.sh = Y) (k : Q (.bl false) n) : f_30 [X] n Q := by
  have hs : shs [Dat.int i, Y] = [Dat.int i, Y] := by
    show [Dat.int i, Y.sh] = _
    rw [hY]
  have s1 := sq_sh hX hs
  have i1 := sq_ix hX
  unfold f_30 b_30 f_29 b_29
  simp! [s1]
  refine w_5 hX hs 2 ?_
  simp! [s1, i1, at2_0, e_2i]
  rw [if_pos hi]
  exact k
theorem x_ring_n {X : Dat} {i : Int} (hX : Sq X [.int i, .non]) (k : Q (.bl false) n) : f_30 [X] n Q := by
  have hs : shs [Dat.int i, .non] = [Dat.int i, .non] := rfl
  have s1 := sq_sh hX hs
  have i1 := sq_ix hX
  unfold f_30 b_30 f_29 b_29
  simp! [s1]
  refine w_5 hX hs 2 ?_
  simp! [s1, i1, at2_0, at2_1, e_2i]
  refine iteP (fun _ => k) fun _ => ?_
  unfold f_21 b_21 f_5 b_5 f_1 b_1
  simp!
  exact k
end
end M4
set_option Elab.async false
set_option linter.all false
set_option maxRecDepth 100000
set_option maxHeartbeats 4000000
/-! images -/
namespace M4
open PySem L2 DL
open N4 (top fDraw fMixed fSame dpD dpDs fitD fitDs)
section
variable {n : Int} {Q : Dat → Int → Prop}
/-- words that are an image -/
def good (w : Nat) : List Int → Bool
  | v :: m :: p :: a :: b :: body => decide (v ≠ on w) && (decide (m = body.length) && (decide (m ≠ on w) && (decide (p < w) && (!(decide (m = 0) && decide (0 < p)) && ((body.isEmpty || decide (body.getLastD 0 % 2 ^ p.toNat = 0)) && (decide (a = (sums w (v :: m :: p :: body)).1) && decide (b = (sums w (v :: m :: p :: body)).2)))))))
  | _ => false
theorem sq_sl {X : Dat} {l : List Dat} (h : Sq X l) (a b : Option Int) (R : Dat → Prop) (k : ∀ d, (d = .own (DL.cutD l a b) ∨ d = .tup (DL.cutD l a b)) → R d) : dSlR X a b R := by
  rcases h with rfl | rfl
  · exact k _ (.inl rfl)
  · exact k _ (.inr rfl)
theorem cut_to (l : List Int) (k : Nat) : DL.cutD (il l) none (some (k : Int)) = il (l.take k) := by
  rw [cut_il]
  congr 1
  rw [HT.sIx_nat]
  show (l.drop 0).take (min k l.length - 0) = _
  rw [List.drop_zero, Nat.sub_zero]
  rcases Nat.le_total k l.length with h | h
  · rw [Nat.min_eq_left h]
  · rw [Nat.min_eq_right h, List.take_of_length_le h, List.take_of_length_le (Nat.le_refl _)]
theorem cut_from (l : List Int) (k : Nat) : DL.cutD (il l) (some (k : Int)) none = il (l.drop k) := by
  rw [cut_il]
  congr 1
  rw [HT.sIx_nat]
  show (l.drop (min k l.length)).take (l.length - min k l.length) = _
  rcases Nat.le_total k l.length with h | h
  · rw [Nat.min_eq_left h, List.take_of_length_le (by rw [List.length_drop]; exact Nat.le_refl _)]
  · rw [Nat.min_eq_right h, List.drop_of_length_le h, List.drop_of_length_le (Nat.le_refl _), List.take_nil]
theorem cut_mid (l : List Int) (i j : Nat) (h : j ≤ l.length) (hi : i ≤ j) : DL.cutD (il l) (some (i : Int)) (some (j : Int)) = il ((l.drop i).take (j - i)) := by
  rw [cut_il, HT.sIx_nat, HT.sIx_nat, Nat.min_eq_left h, Nat.min_eq_left (Nat.le_trans hi h)]
theorem gseq_il {g : DGs} {k : Nat} {l : List Int} {d : Dat} {D : DSt} {R : DSt → Prop} (h : d = .own (il l) ∨ d = .tup (il l)) (hl : l.length = k) (e : g (il l) D R) : dgSeq k g d D R := by
  rcases h with rfl | rfl
  · exact ⟨by rw [il_len]; exact hl, e⟩
  · exact ⟨by rw [il_len]; exact hl, e⟩
theorem band_p {x : Int} (hx : 0 ≤ x) (p : Nat) : Builtin.bitAnd x (1 * 2 ^ p - 1) = x % 2 ^ p := by
  obtain ⟨a, rfl⟩ : ∃ a : Nat, x = a := ⟨x.toNat, by omega⟩
  have e : (1 * 2 ^ p - 1 : Int) = ((2 ^ p - 1 : Nat) : Int) := by
    have h1 := Nat.one_le_two_pow (n := p)
    rw [Int.ofNat_sub h1]
    simp
  rw [e, PySem.W.os_band, Nat.and_two_pow_sub_one_eq_mod]
  simp
theorem x_eq2 {a b c d : Int} {R : Dat → Prop} : dEq (.tup [.int a, .int b]) (.tup [.int c, .int d]) R = R (.bl (decide (a = c) && decide (b = d))) := by
  have e : (Dat.tup [.int a, .int b]).eqb (.tup [.int c, .int d]) = (decide (a = c) && decide (b = d)) := by
    show (a == c && (b == d && true)) = _
    rw [Bool.and_true]
    rfl
  show ((Dat.eqOk _ ∧ Dat.eqOk _) ∧ R (.bl ((Dat.tup [.int a, .int b]).eqb (.tup [.int c, .int d])))) = _
  rw [e]
  have ok : ∀ x y : Int, Dat.eqOk (.tup [.int x, .int y]) := fun x y => ⟨rfl, rfl⟩
  exact propext ⟨fun h => h.2, fun h => ⟨⟨ok _ _, ok _ _⟩, h⟩⟩
theorem at_last {l : List Int} (h : l ≠ []) : atI (il l) (-1) = some (.int (l.getLastD 0)) := by
  have hl : 0 < l.length := List.length_pos_iff.mpr h
  unfold atI ixN
  rw [il_len, if_neg (by decide), if_pos (by omega)]
  show (il l)[(-1 + (l.length : Int)).toNat]? = _
  rw [il_at, show (-1 + (l.length : Int)).toNat = l.length - 1 by omega]
  rw [List.getLastD_eq_getLast?, List.getLast?_eq_getElem?]
  cases q : l[l.length - 1]? with
  | none => rw [List.getElem?_eq_none_iff] at q; omega
  | some x => rfl
theorem wds_at {w : Nat} {l : List Int} (h : wds w l = true) {x : Int} (hx : x ∈ l) : 0 ≤ x ∧ x < 2 ^ w := by
  have := List.all_eq_true.mp h x hx
  simp only [Bool.and_eq_true, decide_eq_true_eq] at this
  exact this
theorem getLastD_mem {l : List Int} (h : l ≠ []) : l.getLastD 0 ∈ l := by
  rw [List.getLastD_eq_getLast?, List.getLast?_eq_some_getLast h]
  exact List.getLast_mem h
theorem il_emp (l : List Int) : (il l).isEmpty = l.isEmpty := by cases l <;> rfl
theorem good_iff {w : Nat} {v m p a b : Int} {body : List Int} : good w (v :: m :: p :: a :: b :: body) = true ↔ v ≠ on w ∧ m = body.length ∧ m ≠ on w ∧ p < w ∧ ¬ (m = 0 ∧ 0 < p) ∧ (body = [] ∨ body.getLastD 0 % 2 ^ p.toNat = 0) ∧ a = (sums w (v :: m :: p :: body)).1 ∧ b = (sums w (v :: m :: p :: body)).2 := by
  unfold good
  simp only [Bool.and_eq_true, decide_eq_true_eq, Bool.not_eq_true', Bool.or_eq_true, List.isEmpty_iff, ne_eq, Bool.and_eq_false_imp, decide_eq_false_iff_not, not_and]
theorem w_19 {X : Dat} {w : Nat} {l : List Int} (hX : Sq X (il l)) (hw4 : 4 ≤ w) (hw : w ≤ 8) (hl : l.length ≤ 1000) (hd : wds w l = true) (k1 : good w l = true → Q .non n) (k2 : good w l = false → ∀ s, Q (.str s) n) : f_19 [.int w, X] n Q := by
  have s1 := sq_sh hX (il_shs l)
  have l1 := sq_len hX
  unfold f_19 b_19
  simp! [s1]
  refine w_17 hX w (by omega) hl ?_
  simp! [l1, s1, hd, il_len]
  match l, hd with
  | [], _ => exact k2 rfl _
  | [_], _ => exact k2 rfl _
  | [_, _], _ => exact k2 rfl _
  | [_, _, _], _ => exact k2 rfl _
  | [_, _, _, _], _ => exact k2 rfl _
  | v :: m :: p :: a :: b :: body, hd =>
    rw [if_neg (by simp only [List.length_cons]; omega)]
    refine sq_sl hX _ _ _ fun d hd5 => ?_
    have c5 := cut_to (v :: m :: p :: a :: b :: body) 5
    have c6 := cut_from (v :: m :: p :: a :: b :: body) 5
    simp only [x_c5] at c5 c6
    rw [c5] at hd5
    refine gseq_il hd5 rfl ?_
    simp! [s1, List.take_succ_cons, List.take_zero, List.drop_succ_cons, List.drop_zero, il_cons, il_nil]
    refine sq_sl hX _ _ _ fun e he => ?_
    rw [c6] at he
    have he' : ∀ R : Dat → Prop, dList [e.sh] R = R (.own (il body)) := fun R => by
      rcases he with rfl | rfl
      · show R (.own (shs (il body))) = _
        rw [il_shs]
      · show R (.own (shs (il body))) = _
        rw [il_shs]
    simp! [he', il_closs, il_shs]
    have hv := wds_at hd (x := v) (by simp)
    have hm := wds_at hd (x := m) (by simp)
    have hp := wds_at hd (x := p) (by simp)
    -- the sums
    have kb : ¬ (good w (v :: m :: p :: a :: b :: body) = true) → ∀ s, Q (.str s) n := fun h => k2 (by simpa using h)
    rw [good_iff] at k1 kb
    have tl : v ≠ on w ∧ m = body.length ∧ m ≠ on w ∧ p < w ∧ ¬ (m = 0 ∧ 0 < p) ∧ (body = [] ∨ body.getLastD 0 % 2 ^ p.toNat = 0) → ((il body ++ []).length + 1 + 1 + 1 ≤ sizeLine ∧ f_18 [Dat.int w, Dat.lst (Dat.int v :: Dat.int m :: Dat.int p :: shs (il body ++ []))] n fun y n2 => dEq (.tup [.int a, .int b]) y.sh fun d => ∃ b, d = Dat.bl b ∧ if b = true then Q .non n2 else Q (.str (Str.ofString "sums")) n2) := fun ⟨g1, g2, g3, g4, g5, g6⟩ => by
      rw [List.append_nil, il_len, il_shs]
      refine ⟨Nat.le_trans (show body.length + 1 + 1 + 1 ≤ 1000 by simp only [List.length_cons] at hl; omega) (by decide), ?_⟩
      refine w_18 w (v :: m :: p :: body) (by omega) (by omega) ?_
      simp! [x_eq2]
      refine iteP (fun h => ?_) fun h => ?_
      · simp only [Bool.and_eq_true, decide_eq_true_eq] at h
        exact k1 ⟨g1, g2, g3, g4, g5, g6, h.1, h.2⟩
      · simp only [Bool.and_eq_true, decide_eq_true_eq] at h
        exact kb (fun g => h ⟨g.2.2.2.2.2.2.1, g.2.2.2.2.2.2.2⟩) _
    refine w_16 w (by omega) ?_
    simp! [il_len]
    refine iteP (fun h => kb (fun g => g.1 h) _) fun g1 => ?_
    refine iteP (fun h => kb (fun g => h g.2.1) _) fun g2 => ?_
    have g2 : m = body.length := Classical.not_not.mp g2
    refine w_16 w (by omega) ?_
    simp!
    refine iteP (fun h => kb (fun g => g.2.2.1 h) _) fun g3 => ?_
    refine iteP (fun h => kb (fun g => by have := g.2.2.2.1; omega) _) fun g4 => ?_
    -- the rest
    have rs : ¬ (m = 0 ∧ 0 < p) → ∀ T : Prop, ((body = [] ∨ body.getLastD 0 % 2 ^ p.toNat = 0) → T) → (body ≠ [] → body.getLastD 0 % 2 ^ p.toNat ≠ 0 → Q (.str (Str.ofString "rest")) n) → if (il body).isEmpty = false then ∃ d, atI (il body) (-1) = some d ∧ CPow 1 p ∧ dI0 (fun i j => Dat.int (Builtin.bitAnd i j)) d.sh (.int (1 * 2 ^ p.toNat - 1)) fun d => ∃ k, d.truth = some k ∧ if k = true then Q (.str (Str.ofString "rest")) n else T else T := fun g5 T h1 h2 => by
      rw [il_emp]
      refine iteP (fun e => ?_) fun e => ?_
      · have ne : body ≠ [] := fun z => by rw [z] at e; cases e
        have hx := wds_at hd (x := body.getLastD 0) (List.mem_cons_of_mem _ (List.mem_cons_of_mem _ (List.mem_cons_of_mem _ (List.mem_cons_of_mem _ (List.mem_cons_of_mem _ (getLastD_mem ne))))))
        refine ⟨_, at_last ne, ⟨by omega, by omega, by decide⟩, ?_⟩
        simp! [band_p hx.1]
        refine iteP (fun z => h2 ne ?_) fun z => h1 (.inr ?_)
        · simpa using z
        · simpa using z
      · refine h1 (.inl ?_)
        cases body with
        | nil => rfl
        | cons x r => exact (e rfl).elim
    refine iteP (fun h0 => ?_) fun h0 => ?_
    · refine iteP (fun h => kb (fun g => g.2.2.2.2.1 ⟨h0, h⟩) _) fun h => ?_
      exact rs (fun z => h z.2) _ (fun g6 => tl ⟨g1, g2, g3, by omega, fun z => h z.2, g6⟩) fun ne z => kb (fun g => by rcases g.2.2.2.2.2.1 with y | y; exact ne y; exact z y) _
    · exact rs (fun z => h0 z.1) _ (fun g6 => tl ⟨g1, g2, g3, by omega, fun z => h0 z.1, g6⟩) fun ne z => kb (fun g => by rcases g.2.2.2.2.2.1 with y | y; exact ne y; exact z y) _
/-- a ring of the right shape: c slots of s words -/
structure Rg (c w b s : Nat) (l : List Int) : Prop where
  c2 : 2 ≤ c
  c5 : c ≤ 5
  w4 : 4 ≤ w
  w8 : w ≤ 8
  b3 : 3 ≤ b
  b8 : b ≤ 8
  s2 : 2 * b ≤ s
  s9 : s ≤ 100
  dv : s % b = 0
  len : l.length = c * s
  wd : wds w l = true
/-- the words of a slot -/
def sl (s i : Nat) (l : List Int) : List Int := (l.drop (i * s)).take s
theorem Rg.len_le {c w b s : Nat} {l : List Int} (r : Rg c w b s l) : l.length ≤ 500 := by
  rw [r.len]
  exact Nat.mul_le_mul r.c5 r.s9
theorem Rg.okR {c w b s : Nat} {l : List Int} (r : Rg c w b s l) : okR c w b l := by
  have h1 := r.c2
  have h2 := r.w4
  have h3 := r.w8
  have h4 := r.b3
  have h6 := r.s2
  have h7 := r.dv
  have e : c * b ∣ c * s := Nat.mul_dvd_mul_left c (Nat.dvd_of_mod_eq_zero h7)
  have e2 : b ∣ c * s := Nat.dvd_trans (Nat.dvd_mul_left b c) e
  have e3 : 2 * (c * b) ≤ c * s := by
    rw [show 2 * (c * b) = c * (2 * b) from by rw [Nat.mul_left_comm]]
    exact Nat.mul_le_mul_left c h6
  have e4 : 0 < c * b := Nat.mul_pos (by omega) (by omega)
  refine ⟨by omega, ⟨by omega, by omega, by omega, by rw [Int.toNat_natCast]; exact r.wd, by rw [r.len]; omega, ?_⟩, by omega, ?_, ?_⟩
  · rw [r.len]
    exact_mod_cast Nat.mod_eq_zero_of_dvd e2
  · rw [r.len, Int.mul_assoc]
    exact_mod_cast e3
  · rw [r.len]
    exact_mod_cast Nat.mod_eq_zero_of_dvd e
theorem Rg.size {c w b s : Nat} {l : List Int} (r : Rg c w b s l) : ((l.length : Nat) : Int) / (c : Int) = s := by
  rw [r.len]
  have := r.c2
  exact_mod_cast Nat.mul_div_cancel_left s (show 0 < c by omega)
theorem Rg.in {c w b s : Nat} {l : List Int} (r : Rg c w b s l) {i : Nat} (h : i < c) : i * s + s ≤ l.length := by
  rw [r.len, ← Nat.succ_mul]
  exact Nat.mul_le_mul_right s h
theorem Rg.sl_len {c w b s : Nat} {l : List Int} (r : Rg c w b s l) {i : Nat} (h : i < c) : (sl s i l).length = s := by
  unfold sl
  have := r.in h
  rw [List.length_take, List.length_drop]
  omega
theorem wds_drop {w : Nat} {l : List Int} (h : wds w l = true) (k : Nat) : wds w (l.drop k) = true := by
  unfold wds at *
  rw [List.all_eq_true] at *
  exact fun x hx => h x (List.mem_of_mem_drop hx)
theorem wds_take {w : Nat} {l : List Int} (h : wds w l = true) (k : Nat) : wds w (l.take k) = true := by
  unfold wds at *
  rw [List.all_eq_true] at *
  exact fun x hx => h x (List.mem_of_mem_take hx)
theorem wds_app {w : Nat} {l m : List Int} (h : wds w l = true) (h2 : wds w m = true) : wds w (l ++ m) = true := by
  unfold wds at *
  rw [List.all_append, h, h2]
  rfl
theorem Rg.sl_wd {c w b s : Nat} {l : List Int} (r : Rg c w b s l) (i : Nat) : wds w (sl s i l) = true := wds_take (wds_drop r.wd _) _
theorem w_32 {c w b s : Nat} {l : List Int} (r : Rg c w b s l) (k : Q (.int s) n) : f_32 [rg c w b l] n Q := by
  have h1 := r.c2
  have h2 := r.c5
  unfold f_32 b_32
  simp! [rg, at2_0, at2_1, at3_2, il_shs, il_len, r.size]
  exact ⟨⟨by omega, by omega⟩, k⟩
theorem w_33 {c w b s i : Nat} {l : List Int} (r : Rg c w b s l) (hi : i < c) (k : Q (.own (il (sl s i l))) n) : f_33 [rg c w b l, .int i] n Q := by
  have h1 := r.c2
  have h2 := r.c5
  have h3 := r.in hi
  have h4 := r.s9
  unfold f_33 b_33
  simp! [rg_sh]
  refine w_32 r ?_
  have e : (i : Int) * (s : Int) = ((i * s : Nat) : Int) := by simp
  have e2 : ((i * s : Nat) : Int) + (s : Int) = ((i * s + s : Nat) : Int) := by simp
  have e3 : i * s + s - i * s = s := by omega
  simp! [rg, at2_0, at2_1, at3_2, il_shs, il_len, e, e2]
  rw [cut_mid l _ _ h3 (by omega), e3]
  exact ⟨.inl ⟨by omega, by omega⟩, .inl ⟨by omega, by omega⟩, k⟩
end
end M4
set_option Elab.async false
set_option linter.all false
set_option maxRecDepth 100000
set_option maxHeartbeats 4000000
/-! the image in a slot -/
namespace M4
open PySem L2 DL
open N4 (top fDraw fMixed fSame dpD dpDs fitD fitDs)
section
variable {n : Int} {Q : Dat → Int → Prop}
def room (ws : List Int) : List Int := (ws.drop 3).take (ws.length - 4)
def img (w : Nat) (ws : List Int) : Option (List Int) :=
  if (room ws).length < 5 then none else if ((room ws).length : Int) - 5 < (room ws).getD 1 0 then none else if good w ((room ws).take (((room ws).getD 1 0).toNat + 5)) = true then some ((room ws).take (((room ws).getD 1 0).toNat + 5)) else none
def optD : Option (List Int) → Dat
  | none => .non
  | some l => .lst (il l)
theorem cut_in (l : List Int) (h : 4 ≤ l.length) : DL.cutD (il l) (some 3) (some (-1)) = il (room l) := by
  rw [cut_il]
  congr 1
  unfold room
  have e1 : HT.sIx l.length 0 (some 3) = 3 := by
    show (if (3 : Int) < 0 then ((3 : Int) + (l.length : Int)).toNat else min (3 : Int).toNat l.length) = 3
    rw [if_neg (by decide)]
    show min 3 l.length = 3
    omega
  have e2 : HT.sIx l.length l.length (some (-1)) = l.length - 1 := by
    show (if (-1 : Int) < 0 then ((-1 : Int) + (l.length : Int)).toNat else min (-1 : Int).toNat l.length) = l.length - 1
    rw [if_pos (by decide)]
    omega
  rw [e1, e2, show l.length - 1 - 3 = l.length - 4 by omega]
theorem at_il {l : List Int} {i : Nat} (h : i < l.length) : atI (il l) (i : Int) = some (.int (l.getD i 0)) := by
  rw [at_nat, il_at, List.getD_eq_getElem?_getD, List.getElem?_eq_getElem h]
  rfl
theorem room_wd {w : Nat} {ws : List Int} (h : wds w ws = true) : wds w (room ws) = true := wds_take (wds_drop h _) _
theorem getD_mem {l : List Int} {i : Nat} (h : i < l.length) : l.getD i 0 ∈ l := by
  rw [List.getD_eq_getElem?_getD, List.getElem?_eq_getElem h]
  exact List.getElem_mem h
theorem optD_nn (o : Option (List Int)) : (optD o).isNon = o.isNone := by cases o <;> rfl
theorem optD_sh (o : Option (List Int)) : (optD o).sh = optD o := by cases o <;> rfl
theorem w_34 {c w b s i : Nat} {l : List Int} (r : Rg c w b s l) (hi : i < c) (k : Q (optD (img w (sl s i l))) n) : f_34 [rg c w b l, .int i] n Q := by
  have h1 := r.sl_len hi
  have h2 := room_wd (r.sl_wd i)
  have h3 := r.s9
  have h4 := r.s2
  have h5 := r.b3
  have w4 := r.w4
  have w8 := r.w8
  unfold f_34 b_34
  simp! [rg_sh]
  unfold rg
  simp! [at2_1, at3_0, il_shs]
  refine w_33 r hi ?_
  unfold img at k
  generalize sl s i l = ws at *
  have hr : (room ws).length ≤ 100 := by unfold room; rw [List.length_take]; omega
  simp! [il_closs, il_shs, cut_in ws (by omega), il_len]
  refine iteP (fun a => ?_) fun a => ?_
  · rw [if_pos (by omega)] at k
    exact k
  rw [if_neg (by omega)] at k
  have e1 := at_il (l := room ws) (i := 1) (by omega)
  simp only [x_c1] at e1
  have hm := wds_at h2 (getD_mem (l := room ws) (i := 1) (by omega))
  simp! [e1]
  refine iteP (fun a2 => ?_) fun a2 => ?_
  · rw [if_pos a2] at k
    exact k
  rw [if_neg a2] at k
  obtain ⟨m, em⟩ : ∃ m : Nat, (room ws).getD 1 0 = m := ⟨((room ws).getD 1 0).toNat, by omega⟩
  rw [em] at k a2 ⊢
  have e2 : (m : Int) + 5 = ((m + 5 : Nat) : Int) := by simp
  rw [Int.toNat_natCast] at k
  rw [e2, cut_to]
  simp! [il_closs, il_shs]
  refine w_19 (.inl rfl) w4 w8 (by rw [List.length_take]; omega) (wds_take h2 _) (fun g => ?_) fun g s => ?_
  · rw [if_pos g] at k
    simp!
    exact k
  · rw [if_neg (by rw [g]; decide)] at k
    simp!
    exact k
end
end M4
set_option Elab.async false
set_option linter.all false
set_option maxRecDepth 100000
set_option maxHeartbeats 4000000
/-! the law's own look at an image -/
namespace M4
open PySem L2 DL
open N4 (top fDraw fMixed fSame dpD dpDs fitD fitDs)
section
variable {n : Int} {Q : Dat → Int → Prop}
theorem w_66 {c w b s i : Nat} {l : List Int} (r : Rg c w b s l) (hi : i < c) (k : Q (.own (il (sl s i l))) n) : f_66 [rg c w b l, .int i] n Q := by
  have h1 := r.c2
  have h2 := r.c5
  have h3 := r.in hi
  have h4 := r.s9
  have e : (i : Int) * (s : Int) = ((i * s : Nat) : Int) := by simp
  have e2 : ((i * s : Nat) : Int) + (s : Int) = ((i * s + s : Nat) : Int) := by simp
  have e3 : i * s + s - i * s = s := by omega
  unfold f_66 b_66
  unfold rg
  simp! [at2_0, at2_1, at3_2, il_shs, il_len, r.size, e, e2]
  rw [cut_mid l _ _ h3 (by omega), e3]
  exact ⟨⟨by omega, by omega⟩, .inl ⟨by omega, by omega⟩, .inl ⟨by omega, by omega⟩, k⟩
theorem room2 {ws : List Int} (h : 4 ≤ ws.length) : ((ws ++ ws).drop 3).take (ws.length - 1 - 3) = room ws := by
  unfold room
  rw [List.drop_append_of_le_length (by omega), List.take_append_of_le_length (by rw [List.length_drop]; omega), show ws.length - 1 - 3 = ws.length - 4 by omega]
theorem x_eq2l {a b c d : Int} {R : Dat → Prop} : dEq (.lst [.int a, .int b]) (.lst [.int c, .int d]) R = R (.bl (decide (a = c) && decide (b = d))) := by
  have e : (Dat.lst [.int a, .int b]).eqb (.lst [.int c, .int d]) = (decide (a = c) && decide (b = d)) := by
    show (a == c && (b == d && true)) = _
    rw [Bool.and_true]
    rfl
  show ((Dat.eqOk _ ∧ Dat.eqOk _) ∧ R (.bl ((Dat.lst [.int a, .int b]).eqb (.lst [.int c, .int d])))) = _
  rw [e]
  have ok : ∀ x y : Int, Dat.eqOk (.lst [.int x, .int y]) := fun x y => ⟨rfl, rfl⟩
  exact propext ⟨fun h => h.2, fun h => ⟨⟨ok _ _, ok _ _⟩, h⟩⟩
theorem five : ∀ l : List Int, ¬ ((l.length : Nat) : Int) < 5 → ∃ v m p a b r, l = v :: m :: p :: a :: b :: r
  | v :: m :: p :: a :: b :: r, _ => ⟨v, m, p, a, b, r, rfl⟩
  | [], h => (h (by decide)).elim
  | [_], h => (h (by simp)).elim
  | [_, _], h => (h (by simp)).elim
  | [_, _, _], h => (h (by simp)).elim
  | [_, _, _, _], h => (h (by simp)).elim
theorem ite_last {p : Prop} [Decidable p] {l : List Dat} {x : Int} {G : Dat → Prop} (h : p → atI l (-1) = some (.int x)) (k : G (.int (if p then x else 0))) : if p then ∃ d, atI l (-1) = some d ∧ G d else G (.int 0) := by
  by_cases c : p
  · rw [if_pos c]
    rw [if_pos c] at k
    exact ⟨_, h c, k⟩
  · rw [if_neg c]
    rw [if_neg c] at k
    exact k
theorem lp57 {R : List Bool} {K : DEnds} {x0 x1 x2 x3 x4 x5 x6 x7 x8 x9 x10 x11 x12 : Option Dat} {m : Nat} (hR : R = [false, false, false, false, false, false, false, false, false, false, false, false, false, true, false]) (k : ∀ o, K.nx [x0, x1, x2, x3, x4, x5, x6, x7, x8, x9, x10, x11, x12, some (.int (2 ^ m)), o] n) :
    dForGo (dgName 14) (dSet 13 R (dOp dTimes (dC (Dat.int 2)) (dVar 13))) K (rngD 0 m) [x0, x1, x2, x3, x4, x5, x6, x7, x8, x9, x10, x11, x12, some (.int 1), none] n := by
  subst hR
  refine for_inv (fun l D m' => ∃ (i : Nat) (o : Option Dat), l.length + i = m ∧ D = [x0, x1, x2, x3, x4, x5, x6, x7, x8, x9, x10, x11, x12, some (.int (2 ^ i)), o] ∧ m' = n) ?_ ?_ _ _ _ ⟨0, none, by rw [rng_len]; omega, rfl, rfl⟩
  · rintro D m' ⟨i, o, h1, rfl, rfl⟩
    have : i = m := by simpa using h1
    subst this
    exact k o
  · rintro d l nx hn D m' ⟨i, o, h1, rfl, rfl⟩
    simp!
    refine ⟨.inl (by decide), hn _ _ ⟨i + 1, some d, by rw [List.length_cons] at h1; omega, ?_, rfl⟩⟩
    rw [p2s]
theorem w_57 {w b : Nat} {ws : List Int} (w4 : 4 ≤ w) (w8 : w ≤ 8) (h5 : 4 ≤ ws.length) (h9 : ws.length ≤ 100) (hd : wds w ws = true) (k : Q (optD (img w ws)) n) : f_57 [.tup [.int w, .int b, .lst (il (ws ++ ws))], .int 0] n Q := by
  unfold f_57 b_57
  have h2 := room_wd hd
  have hr : (room ws).length ≤ 100 := by unfold room; rw [List.length_take]; omega
  have half : (((ws ++ ws).length : Nat) : Int) / 2 = (ws.length : Nat) := by rw [List.length_append]; omega
  have c1 := cut_mid (ws ++ ws) 3 (ws.length - 1) (by rw [List.length_append]; omega) (by omega)
  rw [room2 (by omega)] at c1
  have z1 : (0 : Int) * ((ws.length : Nat) : Int) + 3 = 3 := by omega
  have z2 : (0 : Int) * ((ws.length : Nat) : Int) + ((ws.length : Nat) : Int) - 1 = ((ws.length - 1 : Nat) : Int) := by omega
  simp only [x_c3] at c1
  simp! [il_shs, half, il_len]
  refine ⟨⟨by omega, by omega⟩, w_58 w (by omega) ?_⟩
  simp! [il_shs, z1, z2, c1, il_closs, il_len]
  unfold img at k
  refine ⟨.inl ⟨by omega, by omega⟩, .inl ⟨by omega, by omega⟩, ?_⟩
  generalize room ws = rm at *
  refine iteP (fun a => ?_) fun a => ?_
  · rw [if_pos (by omega)] at k
    exact k
  rw [if_neg (by omega)] at k
  obtain ⟨v, m, p, a', b', rest, rfl⟩ := five rm a
  · have e1 : atI (il (v :: m :: p :: a' :: b' :: rest)) 1 = some (.int m) := at_nat (il (v :: m :: p :: a' :: b' :: rest)) 1
    have hv := wds_at h2 (x := v) (by simp)
    have hm := wds_at h2 (x := m) (by simp)
    have hp := wds_at h2 (x := p) (by simp)
    have e0 : (v :: m :: p :: a' :: b' :: rest).getD 1 0 = m := rfl
    rw [e0] at k
    have kn : ¬ (good w ((v :: m :: p :: a' :: b' :: rest).take (m.toNat + 5)) = true) → Q .non n := fun h => by
      by_cases a2 : (((v :: m :: p :: a' :: b' :: rest).length : Nat) : Int) - 5 < m
      · rw [if_pos a2] at k
        exact k
      · rw [if_neg a2, if_neg h] at k
        exact k
    have e3 : (v :: m :: p :: a' :: b' :: rest).take (m.toNat + 5) = v :: m :: p :: a' :: b' :: rest.take m.toNat := rfl
    rw [e3] at k kn
    have ll : (((v :: m :: p :: a' :: b' :: rest).length : Nat) : Int) = rest.length + 5 := by
      simp only [List.length_cons]
      omega
    simp! [e1, ll]
    rw [ll] at k
    refine iteP (fun z => kn fun g => (good_iff.mp g).2.2.1 z) fun n1 => ?_
    refine iteP (fun a2 => ?_) fun a2 => ?_
    · rw [if_pos (by omega)] at k
      exact k
    rw [if_neg (by omega)] at k
    obtain ⟨q, rfl⟩ : ∃ q : Nat, m = q := ⟨m.toNat, by omega⟩
    rw [Int.toNat_natCast] at e3 k kn
    have e2 : (q : Int) + 5 = ((q + 5 : Nat) : Int) := by simp
    have lb : (rest.take q).length = q := by
      rw [List.length_take]
      omega
    have h3 : wds w (v :: (q : Int) :: p :: a' :: b' :: rest.take q) = true := by
      rw [← e3]
      exact wds_take h2 _
    rw [e2, cut_to, e3]
    clear e3 h2
    generalize rest.take q = body at *
    have c3 := cut_to (v :: (q : Int) :: p :: a' :: b' :: body) 3
    have c5 := cut_from (v :: (q : Int) :: p :: a' :: b' :: body) 5
    have c35 := cut_mid (v :: (q : Int) :: p :: a' :: b' :: body) 3 5 (by simp only [List.length_cons]; omega) (by omega)
    simp only [x_c3, x_c5, List.take_succ_cons, List.take_zero, List.drop_succ_cons, List.drop_zero, il_cons, il_nil, Nat.reduceSub] at c3 c5 c35
    simp! [il_closs, il_shs, il_cons, il_nil, c3, c5, c35]
    have c3 : DL.cutD (Dat.int v :: Dat.int q :: Dat.int p :: Dat.int a' :: Dat.int b' :: il body) none (some 3) = [.int v, .int q, .int p] := c3
    have pos : ∀ k : Nat, (0 : Int) < 2 ^ k := fun k => by have := p2pos k; omega
    have ne : 0 < (q : Int) → body ≠ [] := fun h z => by rw [z] at lb; simp at lb; omega
    have hL2 : ∀ L : Int, (if 0 < (q : Int) then body.getLastD 0 else 0) = L → (L % 2 ^ p.toNat ≠ 0 ↔ ¬ (body = [] ∨ body.getLastD 0 % 2 ^ p.toNat = 0)) := by
      rintro L rfl
      by_cases c : 0 < (q : Int)
      · rw [if_pos c]
        have := ne c
        constructor
        · rintro h (z | z)
          · exact this z
          · exact h z
        · exact fun h z => h (.inr z)
      · rw [if_neg c]
        have : body = [] := List.length_eq_zero_iff.mp (by omega)
        simp [this]
    refine iteP (fun c => ?_) fun c => ?_
    · refine ⟨.int (body.getLastD 0), ?_, ?_⟩
      · have := at_last (l := v :: (q : Int) :: p :: a' :: b' :: body) (by simp)
        rw [show (v :: (q : Int) :: p :: a' :: b' :: body).getLastD 0 = body.getLastD 0 by
          cases body with
          | nil => exact (ne c rfl).elim
          | cons x r => simp [List.getLastD]] at this
        exact this
      · have hL2 := hL2 _ (if_pos c)
        simp!
        refine iteP (fun hp' => ⟨by omega, by omega, lp57 rfl fun o => ?_⟩) fun hp' => ⟨by omega, by omega, lp57 rfl fun o => ?_⟩
        · simp! [il_shs, c3, c5, c35, shs_shs]
          refine iteP (fun z => kn fun g => (good_iff.mp g).1 z) fun n2 => ?_
          refine iteP (fun z => kn fun g => by have := (good_iff.mp g).2.2.2.1; omega) fun n3 => ?_
          have g4 : ((q : Int) = 0 → ¬ 0 < p) → (0 : Int) < 2 ^ p.toNat ∧ True := fun _ => ⟨pos _, trivial⟩
          have fin : ((q : Int) = 0 → ¬ 0 < p) → (body = [] ∨ body.getLastD 0 % 2 ^ p.toNat = 0) → f_55 [Dat.int w, Dat.lst (Dat.int v :: Dat.int q :: Dat.int p :: il body)] n fun x n1 => dEq x.sh (.lst [.int a', .int b']) fun d => ∃ b, d = Dat.bl b ∧ if b = true then Q (.lst (Dat.int v :: Dat.int q :: Dat.int p :: Dat.int a' :: Dat.int b' :: il body)) n1 else Q .non n1 := fun h4 h6 => by
            refine w_55 w (v :: (q : Int) :: p :: body) (by omega) (by omega) ?_
            simp! [x_eq2l]
            refine iteP (fun z => ?_) fun z => kn fun g => z ?_
            · simp only [Bool.and_eq_true, decide_eq_true_eq] at z
              have gg : good w (v :: (q : Int) :: p :: a' :: b' :: body) = true := good_iff.mpr ⟨n2, by rw [lb], n1, by omega, fun y => h4 y.1 y.2, h6, z.1.symm, z.2.symm⟩
              rw [if_pos gg] at k
              exact k
            · have y := good_iff.mp g
              simp only [Bool.and_eq_true, decide_eq_true_eq]
              exact ⟨y.2.2.2.2.2.2.1.symm, y.2.2.2.2.2.2.2.symm⟩
          have sz : body.length + 3 ≤ sizeLine := Nat.le_trans (show body.length + 3 ≤ 1000 by simp only [List.length_cons] at hr ll; omega) (by decide)
          refine iteP (fun q0 => iteP (fun z => kn fun g => (good_iff.mp g).2.2.2.2.1 ⟨q0, z⟩) fun n4 => ?_) fun q0 => ?_
          · refine ⟨pos _, iteP (fun z => kn fun g => hL2.mp z (good_iff.mp g).2.2.2.2.2.1) fun n5 => ⟨by rw [il_len]; omega, fin (fun _ => n4) (Classical.not_not.mp fun y => n5 (hL2.mpr y))⟩⟩
          · refine ⟨pos _, iteP (fun z => kn fun g => hL2.mp z (good_iff.mp g).2.2.2.2.2.1) fun n5 => ⟨by rw [il_len]; omega, fin (fun y => (q0 y).elim) (Classical.not_not.mp fun y => n5 (hL2.mpr y))⟩⟩
        · simp! [il_shs, c3, c5, c35, shs_shs]
          refine iteP (fun z => kn fun g => (good_iff.mp g).1 z) fun n2 => ?_
          exact iteP (fun z => kn fun g => by have := (good_iff.mp g).2.2.2.1; omega) fun n3 => by omega
    · have hL2 := hL2 _ (if_neg c)
      refine iteP (fun hp' => ⟨by omega, by omega, lp57 rfl fun o => ?_⟩) fun hp' => ⟨by omega, by omega, lp57 rfl fun o => ?_⟩
      · simp! [il_shs, c3, c5, c35, shs_shs]
        refine iteP (fun z => kn fun g => (good_iff.mp g).1 z) fun n2 => ?_
        refine iteP (fun z => kn fun g => by have := (good_iff.mp g).2.2.2.1; omega) fun n3 => ?_
        have g4 : ((q : Int) = 0 → ¬ 0 < p) → (0 : Int) < 2 ^ p.toNat ∧ True := fun _ => ⟨pos _, trivial⟩
        have fin : ((q : Int) = 0 → ¬ 0 < p) → (body = [] ∨ body.getLastD 0 % 2 ^ p.toNat = 0) → f_55 [Dat.int w, Dat.lst (Dat.int v :: Dat.int q :: Dat.int p :: il body)] n fun x n1 => dEq x.sh (.lst [.int a', .int b']) fun d => ∃ b, d = Dat.bl b ∧ if b = true then Q (.lst (Dat.int v :: Dat.int q :: Dat.int p :: Dat.int a' :: Dat.int b' :: il body)) n1 else Q .non n1 := fun h4 h6 => by
          refine w_55 w (v :: (q : Int) :: p :: body) (by omega) (by omega) ?_
          simp! [x_eq2l]
          refine iteP (fun z => ?_) fun z => kn fun g => z ?_
          · simp only [Bool.and_eq_true, decide_eq_true_eq] at z
            have gg : good w (v :: (q : Int) :: p :: a' :: b' :: body) = true := good_iff.mpr ⟨n2, by rw [lb], n1, by omega, fun y => h4 y.1 y.2, h6, z.1.symm, z.2.symm⟩
            rw [if_pos gg] at k
            exact k
          · have y := good_iff.mp g
            simp only [Bool.and_eq_true, decide_eq_true_eq]
            exact ⟨y.2.2.2.2.2.2.1.symm, y.2.2.2.2.2.2.2.symm⟩
        have sz : body.length + 3 ≤ sizeLine := Nat.le_trans (show body.length + 3 ≤ 1000 by simp only [List.length_cons] at hr ll; omega) (by decide)
        refine iteP (fun q0 => iteP (fun z => kn fun g => (good_iff.mp g).2.2.2.2.1 ⟨q0, z⟩) fun n4 => ?_) fun q0 => ?_
        · refine ⟨pos _, iteP (fun z => kn fun g => hL2.mp z (good_iff.mp g).2.2.2.2.2.1) fun n5 => ⟨by rw [il_len]; omega, fin (fun _ => n4) (Classical.not_not.mp fun y => n5 (hL2.mpr y))⟩⟩
        · refine ⟨pos _, iteP (fun z => kn fun g => hL2.mp z (good_iff.mp g).2.2.2.2.2.1) fun n5 => ⟨by rw [il_len]; omega, fin (fun y => (q0 y).elim) (Classical.not_not.mp fun y => n5 (hL2.mpr y))⟩⟩
      · simp! [il_shs, c3, c5, c35, shs_shs]
        refine iteP (fun z => kn fun g => (good_iff.mp g).1 z) fun n2 => ?_
        exact iteP (fun z => kn fun g => by have := (good_iff.mp g).2.2.2.1; omega) fun n3 => by omega
end
end M4
set_option Elab.async false
set_option linter.all false
set_option maxRecDepth 100000
set_option maxHeartbeats 4000000
/-! fresh rings -/
namespace M4
open PySem L2 DL
open N4 (top fDraw fMixed fSame dpD dpDs fitD fitDs)
section
variable {n : Int} {Q : Dat → Int → Prop}
theorem w_67 {c w b s i : Nat} {l : List Int} (r : Rg c w b s l) (hi : i < c) (k : Q (optD (img w (sl s i l))) n) : f_67 [rg c w b l, .int i] n Q := by
  have h1 := r.sl_len hi
  have h3 := r.s9
  have h4 := r.s2
  have h5 := r.b3
  unfold f_67 b_67
  simp! [rg_sh]
  refine w_66 r hi ?_
  unfold rg
  simp! [at2_1, at3_0, at3_1, il_shs, il_closs, il_len]
  rw [← il_app, il_shs]
  refine ⟨Nat.le_trans (show (sl s i l).length + (sl s i l).length ≤ 1000 by omega) (by decide), ?_⟩
  refine w_57 r.w4 r.w8 (by omega) (by omega) (r.sl_wd i) ?_
  exact k
theorem il_app' (l m : List Int) : il l ++ il m = il (l ++ m) := (il_app l m).symm
theorem il_cons' (x : Int) (l : List Int) : DL.Dat.int x :: il l = il (x :: l) := rfl
theorem il_one' (x : Int) : [DL.Dat.int x] = il [x] := rfl
theorem szl {k : Nat} (h : k ≤ 1000) : k ≤ sizeLine := Nat.le_trans h (by decide)
theorem rep_il (k : Nat) (x : Int) : (List.replicate k [DL.Dat.int x]).flatten = il (List.replicate k x) := by
  induction k with
  | zero => rfl
  | succ k ih => rw [List.replicate_succ, List.flatten_cons, ih, List.replicate_succ]; rfl
theorem rep_il' (k : Nat) (x : Int) : (List.replicate k (il [x])).flatten = il (List.replicate k x) := rep_il k x
/-- the cells of a fresh ring -/
def frL (w b m c : Nat) (im : List Int) : List Int := [mk w, 0, 0] ++ im ++ List.replicate (b * m - 4 - im.length) (on w) ++ [mk w] ++ List.replicate (b * m * (c - 1)) (on w)
theorem w_59 {w b m : Nat} {im : List Int} (w8 : w ≤ 8) (hb : b ≤ 8) (hm : m ≤ 12) (hs : im.length + 4 ≤ b * m) (k : Q (.tup [.int w, .int b, .own (il ([mk w, 0, 0] ++ im ++ List.replicate (b * m - 4 - im.length) (on w) ++ [mk w] ++ List.replicate (b * m) (on w)))]) n) : f_59 [.int w, .int b, .int m, .lst (il im)] n Q := by
  have bm : b * m ≤ 96 := Nat.mul_le_mul hb hm
  have e : (b : Int) * (m : Int) = ((b * m : Nat) : Int) := by simp
  unfold f_59 b_59
  simp! [e]
  refine ⟨.inl ⟨by omega, by omega⟩, w_56 w (by omega) ?_⟩
  refine w_58 w (by omega) ?_
  simp! [il_shs, il_len, rep_il]
  have e3 : ((b * m : Nat) : Int) - 4 - ((im.length : Nat) : Int) = ((b * m - 4 - im.length : Nat) : Int) := by omega
  rw [e3]
  simp only [Int.toNat_natCast, il_app', il_cons', il_one', il_shs, il_len, List.length_append, List.length_replicate, List.length_cons, List.length_nil]
  refine ⟨szl (by omega), by omega, by omega, szl (by omega), szl (by omega), szl (by omega), by omega, by omega, szl (by omega), szl (by omega), ?_⟩
  simpa only [List.cons_append, List.nil_append, List.append_assoc] using k
theorem frL_rg {w b m c : Nat} {im : List Int} (c2 : 2 ≤ c) (c5 : c ≤ 5) (w4 : 4 ≤ w) (w8 : w ≤ 8) (b3 : 3 ≤ b) (b8 : b ≤ 8) (m2 : 2 ≤ m) (m9 : m ≤ 12) (hs : im.length + 4 ≤ b * m) (hd : wds w im = true) : Rg c w b (b * m) (frL w b m c im) := by
  have bm : b * m ≤ 96 := Nat.mul_le_mul b8 m9
  have z : ∀ k : Nat, wds w (List.replicate k (on w)) = true := fun k => by
    unfold wds
    rw [List.all_eq_true]
    intro x hx
    have := List.eq_of_mem_replicate hx
    subst this
    have := p2pos w
    have e : on w = 2 ^ w - 1 := rfl
    simp only [Bool.and_eq_true, decide_eq_true_eq]
    omega
  have hmk : wds w [mk w] = true := by
    have cs : w = 4 ∨ w = 5 ∨ w = 6 ∨ w = 7 ∨ w = 8 := by omega
    rcases cs with rfl | rfl | rfl | rfl | rfl <;> decide
  have h0 : wds w [0, 0] = true := by
    have := p2pos w
    simp [wds]
    omega
  refine ⟨c2, c5, w4, w8, b3, b8, ?_, by omega, Nat.mul_mod_right b m, ?_, ?_⟩
  · rw [Nat.mul_comm 2 b]; exact Nat.mul_le_mul_left b m2
  · unfold frL
    simp only [List.length_append, List.length_replicate, List.length_cons, List.length_nil]
    obtain ⟨d, rfl⟩ : ∃ d, c = d + 1 := ⟨c - 1, by omega⟩
    rw [Nat.add_sub_cancel, Nat.succ_mul, Nat.mul_comm (b * m) d]
    omega
  · unfold frL
    exact wds_app (wds_app (wds_app (wds_app (wds_app hmk h0) hd) (z _)) hmk) (z _)
theorem w_68 {w b m c : Nat} {im : List Int} (c2 : 2 ≤ c) (c5 : c ≤ 5) (w8 : w ≤ 8) (hb : b ≤ 8) (hm : m ≤ 12) (hs : im.length + 4 ≤ b * m) (k : Q (.tup [.int c, .tup [.int w, .int b, .own (il (frL w b m c im))]]) n) : f_68 [.int w, .int b, .int m, .int c, .lst (il im)] n Q := by
  have bm : b * m ≤ 96 := Nat.mul_le_mul hb hm
  have e : (b : Int) * (m : Int) = ((b * m : Nat) : Int) := by simp
  have e2 : ((b * m : Nat) : Int) * ((c : Int) - 2) = ((b * m * (c - 2) : Nat) : Int) := by
    obtain ⟨d, rfl⟩ : ∃ d, c = d + 2 := ⟨c - 2, by omega⟩
    rw [show ((d + 2 : Nat) : Int) - 2 = (d : Int) by omega, Nat.add_sub_cancel]
    simp
  have bm2 : b * m * (c - 2) ≤ 96 * 3 := Nat.mul_le_mul bm (by omega)
  unfold f_68 b_68
  simp! [il_shs]
  refine w_59 w8 hb hm hs ?_
  simp! [il_shs, at3_2, il_closs]
  refine w_58 w (by omega) ?_
  simp! [e, e2, il_shs, rep_il]
  simp only [Int.toNat_natCast, il_app', il_shs, il_len, List.length_append, List.length_replicate, List.length_cons, List.length_nil]
  have e3 : im.length + (b * m - 4 - im.length) = b * m - 4 := by omega
  refine ⟨.inl ⟨by omega, by omega⟩, .inl ⟨by omega, by omega⟩, by omega, by omega, szl (by omega), szl (by omega), ?_⟩
  have e4 : List.replicate (b * m) (on w) ++ List.replicate (b * m * (c - 2)) (on w) = List.replicate (b * m * (c - 1)) (on w) := by
    rw [List.replicate_append_replicate]
    congr 1
    obtain ⟨d, rfl⟩ : ∃ d, c = d + 2 := ⟨c - 2, by omega⟩
    rw [Nat.add_sub_cancel, show d + 2 - 1 = d + 1 by omega, Nat.mul_succ]
    omega
  unfold frL at k
  rw [← e4] at k
  simpa only [List.cons_append, List.nil_append, List.append_assoc] using k
/-! the program's own -/
theorem w_15 {w : Nat} (h4 : 4 ≤ w) (h8 : w ≤ 8) (k : Q (.int w) n) : f_15 [.int w] n Q := by
  unfold f_15 b_15
  simp! [e_2i]
  rw [if_pos (by omega), if_neg (by omega)]
  exact k
theorem w_24 {X : Dat} {w : Nat} {m : Int} {l : List Int} (hX : Sq X (il l)) (w4 : 4 ≤ w) (w8 : w ≤ 8) (hl : l.length ≤ 100) (hd : wds w l = true) (g : good w l = true) (hm : (l.length : Int) ≤ m) (k : Q (.own (il l)) n) : f_24 [.int w, X, .int m] n Q := by
  have s1 := sq_sh hX (il_shs l)
  have l1 := sq_len hX
  have t1 := sq_list hX
  unfold f_24 b_24
  simp! [s1]
  refine w_19 hX w4 w8 (by omega) hd (fun _ => ?_) fun h => (by rw [g] at h; cases h)
  simp! [l1, t1, il_len, s1]
  rw [if_neg (by omega)]
  exact k
theorem w_36 {X : Dat} {w b m c : Nat} {im : List Int} (hX : Sq X (il im)) (c2 : 2 ≤ c) (c5 : c ≤ 5) (w4 : 4 ≤ w) (w8 : w ≤ 8) (b3 : 3 ≤ b) (b8 : b ≤ 8) (m2 : 2 ≤ m) (m9 : m ≤ 12) (hs : im.length + 4 ≤ b * m) (hd : wds w im = true) (g : good w im = true) (k : Q (.tup [.int c, .tup [.int w, .int b, .own (il (frL w b m c im))]]) n) :
    f_36 [.int w, .int b, .int m, .int c, X] n Q := by
  have s1 := sq_sh hX (il_shs im)
  have bm : b * m ≤ 96 := Nat.mul_le_mul b8 m9
  have e : (b : Int) * (m : Int) = ((b * m : Nat) : Int) := by simp
  unfold f_36 b_36
  simp!
  refine w_15 w4 w8 ?_
  simp! [e_2i, e, s1]
  rw [if_neg (by omega), if_neg (by omega), if_neg (by omega)]
  refine ⟨.inl ⟨by omega, by omega⟩, w_24 hX w4 w8 (by omega) hd g (by omega) ?_⟩
  simp! [il_closs, il_shs]
  refine w_23 w w4 w8 ?_
  simp!
  refine w_16 w (by omega) ?_
  simp! [il_closs, il_shs, il_len, rep_il]
  have e3 : ((b * m : Nat) : Int) - 4 - ((im.length : Nat) : Int) = ((b * m - 4 - im.length : Nat) : Int) := by omega
  have e5 : ((b * m : Nat) : Int) * ((c : Int) - 1) = ((b * m * (c - 1) : Nat) : Int) := by
    obtain ⟨d, rfl⟩ : ∃ d, c = d + 1 := ⟨c - 1, by omega⟩
    rw [show ((d + 1 : Nat) : Int) - 1 = (d : Int) by omega, Nat.add_sub_cancel]
    simp
  have bm2 : b * m * (c - 1) ≤ 96 * 4 := Nat.mul_le_mul bm (by omega)
  simp only [e3, Int.toNat_natCast, il_one', il_app', il_cons']
  simp! [il_closs, il_shs, il_len, e5]
  simp only [rep_il, il_one', il_app', il_cons', il_shs, il_closs, il_len, Int.toNat_natCast, List.length_append, List.length_replicate, List.length_cons, List.length_nil, List.append_nil]
  simp only [rep_il', il_app', il_shs, il_len, List.length_replicate]
  refine ⟨by omega, by omega, szl (by omega), szl (by omega), .inl ⟨by omega, by omega⟩, by omega, by omega, szl (by omega), szl (by omega), ?_⟩
  unfold frL at k
  simpa only [List.cons_append, List.nil_append, List.append_assoc] using k
end
end M4
set_option Elab.async false
set_option linter.all false
set_option maxRecDepth 100000
set_option maxHeartbeats 4000000
/-! which run: the program -/
namespace M4
open PySem L2 DL
open N4 (top fDraw fMixed fSame dpD dpDs fitD fitDs)
section
variable {n : Int} {Q : Dat → Int → Prop}
/-- the marks of a slot are whole -/
def mks (w : Nat) (ws : List Int) : Bool := decide (ws.getD 0 0 = mk w) && decide (ws.getLastD 0 = mk w)
/-- the version of a slot that can run -/
def verW (w : Nat) (ws : List Int) : Option Int := if mks w ws = true then (match img w ws with
  | none => none
  | some x => if ws.getD 1 0 = 0 ∧ ws.getD 2 0 ≠ 0 then none else some (x.getD 0 0)) else none
theorem nn_some {x : List Int} : (optD (some x)).isNon = false := rfl
theorem w_37 {c w b s i : Nat} {l : List Int} (r : Rg c w b s l) (hi : i < c) (k : Q (.bl (mks w (sl s i l) && (img w (sl s i l)).isSome)) n) : f_37 [rg c w b l, .int i] n Q := by
  have h1 := r.sl_len hi
  have h4 := r.s2
  have h5 := r.b3
  unfold f_37 b_37
  simp! [rg_sh]
  refine w_33 r hi ?_
  unfold rg
  simp! [at2_1, at3_0, il_shs]
  refine w_23 w r.w4 r.w8 ?_
  have e0 := at_il (l := sl s i l) (i := 0) (by omega)
  have e1 := at_last (l := sl s i l) (by intro z; rw [z] at h1; simp at h1; omega)
  simp only [x_c0] at e0
  simp! [e0, e1, il_closs, il_shs]
  unfold mks at k
  refine iteP (fun a => ?_) fun a => ?_
  · refine iteP (fun a2 => ?_) fun a2 => ?_
    · refine w_34 r hi ?_
      rw [optD_nn]
      rw [a, a2] at k
      simpa using k
    · rw [decide_eq_false a2, Bool.and_false] at k
      exact k
  · rw [decide_eq_false a] at k
    exact k
theorem w_38 {c w b s i : Nat} {l : List Int} (r : Rg c w b s l) (hi : i < c) (k : Q (.bl (decide ((sl s i l).getD 2 0 = 0))) n) : f_38 [rg c w b l, .int i] n Q := by
  have h1 := r.sl_len hi
  have h4 := r.s2
  have h5 := r.b3
  unfold f_38 b_38
  simp! [rg_sh]
  refine w_33 r hi ?_
  have e0 := at_il (l := sl s i l) (i := 2) (by omega)
  simp only [x_c2] at e0
  simp! [e0, il_shs]
  exact k
theorem w_39 {c w b s i : Nat} {l : List Int} (r : Rg c w b s l) (hi : i < c) (k : Q (.bl (verW w (sl s i l)).isSome) n) : f_39 [rg c w b l, .int i] n Q := by
  have h1 := r.sl_len hi
  have h4 := r.s2
  have h5 := r.b3
  unfold f_39 b_39
  simp! [rg_sh]
  refine w_37 r hi ?_
  unfold verW at k
  have e0 := at_il (l := sl s i l) (i := 1) (by omega)
  simp only [x_c1] at e0
  simp!
  refine iteP (fun a => ?_) fun a => ?_
  · rw [Bool.and_eq_true] at a
    rw [if_pos a.1] at k
    refine w_33 r hi ?_
    simp! [e0, il_shs]
    cases e : img w (sl s i l) with
    | none => rw [e] at a; cases a.2
    | some x =>
      rw [e] at k
      dsimp only at k
      by_cases c1 : (sl s i l).getD 1 0 = 0
      · rw [if_neg fun z => z c1]
        refine w_38 r hi ?_
        by_cases c2 : (sl s i l).getD 2 0 = 0
        · rw [if_neg fun z => z.2 c2] at k
          rw [decide_eq_true c2]
          exact k
        · rw [if_pos ⟨c1, c2⟩] at k
          rw [decide_eq_false c2]
          exact k
      · rw [if_pos c1]
        rw [if_neg fun z => c1 z.1] at k
        exact k
  · by_cases m : mks w (sl s i l) = true
    · rw [if_pos m] at k
      cases e : img w (sl s i l) with
      | none => rw [e] at k; exact k
      | some x => rw [m, e] at a; exact (a rfl).elim
    · rw [if_neg m] at k
      exact k
/-- the best of the first slots -/
def bs (v : Nat → Option Int) : Nat → Option (Nat × Int)
  | 0 => none
  | i + 1 => match v i with
    | none => bs v i
    | some x => match bs v i with
      | none => some (i, x)
      | some (j, u) => if u < x then some (i, x) else some (j, u)
def slD : Option (Nat × Int) → Dat
  | none => .non
  | some (j, _) => .int j
def bsV : Option (Nat × Int) → Int
  | none => -1
  | some (_, u) => u
abbrev verR (w s : Nat) (l : List Int) (i : Nat) : Option Int := verW w (sl s i l)
theorem img_at0 {w : Nat} {ws x : List Int} (h : img w ws = some x) (hd : wds w ws = true) : 0 < x.length ∧ wds w x = true := by
  unfold img at h
  split at h
  · cases h
  · split at h
    · cases h
    · split at h
      · cases h
        refine ⟨?_, wds_take (room_wd hd) _⟩
        rw [List.length_take]
        omega
      · cases h
theorem verR_img {w s i : Nat} {l : List Int} {v : Int} (h : verR w s l i = some v) : ∃ x, img w (sl s i l) = some x ∧ x.getD 0 0 = v := by
  unfold verR verW at h
  split at h
  · cases e : img w (sl s i l) with
    | none => rw [e] at h; cases h
    | some x =>
      rw [e] at h
      have h : (if (sl s i l).getD 1 0 = 0 ∧ (sl s i l).getD 2 0 ≠ 0 then none else some (x.getD 0 0)) = some v := h
      split at h
      · cases h
      · cases h
        exact ⟨x, rfl, rfl⟩
  · cases h
theorem w_40 {c w b s : Nat} {l : List Int} (r : Rg c w b s l) (k : Q (slD (bs (verR w s l) c)) n) : f_40 [rg c w b l] n Q := by
  have h1 := r.c2
  have h2 := r.c5
  unfold f_40 b_40
  simp! [rg_sh]
  unfold rg
  simp! [at2_0]
  refine ⟨by omega, by omega, ?_⟩
  rw [Int.toNat_natCast]
  refine for_inv (fun q D m => ∃ (i : Nat) (o : Option Dat), i ≤ c ∧ q = rngD i (c - i) ∧ D = [some (rg c w b l), some (slD (bs (verR w s l) i)), some (.int (bsV (bs (verR w s l) i))), o] ∧ m = n) ?_ ?_ _ _ _ ⟨0, none, by omega, by rw [Nat.sub_zero]; rfl, rfl, rfl⟩
  · rintro D m ⟨i, o, g1, g2, rfl, rfl⟩
    have : i = c := by
      have := congrArg List.length g2
      rw [rng_len] at this
      simp at this
      omega
    subst this
    simp!
    exact k
  · rintro d q nx hn D m ⟨i, o, g1, g2, rfl, rfl⟩
    have : c - i = (c - (i + 1)) + 1 := by
      have := congrArg List.length g2
      rw [rng_len] at this
      rw [List.length_cons] at this
      omega
    rw [this, rng_cons] at g2
    injection g2 with g2 g3
    subst g2
    have hi : i < c := by omega
    simp! [rg_sh]
    refine w_39 r hi ?_
    simp!
    cases e : verR w s l i with
    | none =>
      rw [show verW w (sl s i l) = none from e, if_neg (by decide)]
      refine hn _ _ ⟨i + 1, some (.int i), by omega, g3, ?_, rfl⟩
      rw [bs, e]
    | some v =>
      obtain ⟨x, hx, ex⟩ := verR_img e
      have hx0 := img_at0 hx (r.sl_wd i)
      have e0 := at_il (l := x) (i := 0) hx0.1
      simp only [x_c0, ex] at e0
      have hv : 0 ≤ v := by rw [← ex]; exact (wds_at hx0.2 (getD_mem hx0.1)).1
      rw [show verW w (sl s i l) = some v from e, if_pos (show (some v).isSome = true from rfl)]
      refine w_34 r hi ?_
      rw [hx]
      simp! [optD, e0]
      refine iteP (fun a => ?_) fun a => ?_
      · refine w_34 r hi ?_
        rw [hx]
        simp! [optD, e0]
        refine hn _ _ ⟨i + 1, some (.int i), by omega, g3, ?_, rfl⟩
        rw [bs, e]
        cases z : bs (verR w s l) i with
        | none => rfl
        | some p =>
          obtain ⟨j, u⟩ := p
          rw [z] at a
          simp only [bsV] at a
          show _ = [some _, some (slD (if u < v then _ else _)), some (.int (bsV (if u < v then _ else _))), _]
          rw [if_pos a]
          rfl
      · refine hn _ _ ⟨i + 1, some (.int i), by omega, g3, ?_, rfl⟩
        rw [bs, e]
        cases z : bs (verR w s l) i with
        | none => rw [z] at a; exact (a (by show (-1 : Int) < v; omega)).elim
        | some p =>
          obtain ⟨j, u⟩ := p
          rw [z] at a
          simp only [bsV] at a
          show _ = [some _, some (slD (if u < v then _ else _)), some (.int (bsV (if u < v then _ else _))), _]
          rw [if_neg a]
theorem bs_ver {v : Nat → Option Int} : ∀ {c j : Nat} {u : Int}, bs v c = some (j, u) → j < c ∧ v j = some u
  | 0, j, u, h => by cases h
  | c + 1, j, u, h => by
    rw [bs] at h
    cases e : v c with
    | none =>
      rw [e] at h
      obtain ⟨h1, h2⟩ := bs_ver h
      exact ⟨by omega, h2⟩
    | some x =>
      rw [e] at h
      cases z : bs v c with
      | none =>
        rw [z] at h
        cases h
        exact ⟨by omega, e⟩
      | some p =>
        obtain ⟨j', u'⟩ := p
        rw [z] at h
        have h : (if u' < x then some (c, x) else some (j', u')) = some (j, u) := h
        split at h
        · cases h
          exact ⟨by omega, e⟩
        · cases h
          obtain ⟨h1, h2⟩ := bs_ver z
          exact ⟨by omega, h2⟩
/-- what a start tells -/
def runD : Option (Nat × Int) → Dat
  | none => .tup [.str "none"]
  | some (j, u) => .tup [.str "run", .int j, .int u]
theorem w_41 {X Y Z : Dat} {c w b s : Nat} {l : List Int} (hX : Sq X [.int c, Y]) (hY : Sq Y [.int w, .int b, Z]) (hZ : Sq Z (il l)) (r : Rg c w b s l) (k : Q (runD (bs (verR w s l) c)) n) : f_41 [X] n Q := by
  have h2 := r.c5
  have h3 := r.b8
  have h4 := r.len_le
  have s1 := sq_sh hX (show shs [Dat.int c, Y] = [Dat.int c, Y] by show [Dat.int c, Y.sh] = _; rw [sq_sh hY (il_sh3 hZ w b)])
  unfold f_41 b_41
  simp! [s1]
  refine w_31 hX hY hZ (by omega) (by omega) (by omega) r.okR ?_
  simp! [rg_sh]
  refine w_40 r ?_
  cases e : bs (verR w s l) c with
  | none =>
    rw [e] at k
    simp! [slD, rg_sh]
    exact k
  | some p =>
    obtain ⟨j, u⟩ := p
    rw [e] at k
    obtain ⟨hj, hv⟩ := bs_ver e
    obtain ⟨x, hx, ex⟩ := verR_img hv
    have hx0 := img_at0 hx (r.sl_wd j)
    have e0 := at_il (l := x) (i := 0) hx0.1
    simp only [x_c0, ex] at e0
    simp! [slD, rg_sh]
    refine w_34 r hj ?_
    rw [hx]
    simp! [optD, e0]
    exact k
/-- what is told of a slot that is not run -/
def word (w : Nat) (ws : List Int) : Str := if mks w ws = true then (if (img w ws).isNone = true then "image" else if (verW w ws).isSome = true then "older" else "failed") else "marks"
theorem x_Eq_in {i : Int} {R : Dat → Prop} : dEq (.int i) .non R = R (.bl false) := by
  show ((Dat.eqOk _ ∧ Dat.eqOk _) ∧ R (.bl ((Dat.int i).eqb .non))) = _
  have ok1 : Dat.eqOk (.int i) := ⟨rfl, rfl⟩
  have ok2 : Dat.eqOk .non := ⟨rfl, rfl⟩
  exact propext ⟨fun h => h.2, fun h => ⟨⟨ok1, ok2⟩, h⟩⟩
theorem w_42 {c w b s i : Nat} {l : List Int} {o : Option (Nat × Int)} (r : Rg c w b s l) (hi : i < c) (k1 : (∃ u, o = some (i, u)) → Q (.str "run") n) (k2 : (¬ ∃ u, o = some (i, u)) → Q (.str (word w (sl s i l))) n) : f_42 [rg c w b l, .int i, slD o] n Q := by
  have h1 := r.sl_len hi
  have h4 := r.s2
  have h5 := r.b3
  have so : (slD o).sh = slD o := by cases o <;> rfl
  have eqS : ∀ R : Dat → Prop, ((∃ u, o = some (i, u)) → R (.bl true)) → ((¬ ∃ u, o = some (i, u)) → R (.bl false)) → dEq (.int i) (slD o) R := fun R a b => by
    cases o with
    | none =>
      show dEq (.int i) .non R
      rw [x_Eq_in]
      exact b fun ⟨u, z⟩ => by cases z
    | some p =>
      obtain ⟨j, u⟩ := p
      show R (.bl (decide ((i : Int) = (j : Int))))
      by_cases z : i = j
      · subst z
        rw [decide_eq_true rfl]
        exact a ⟨u, rfl⟩
      · rw [decide_eq_false (by omega)]
        refine b fun ⟨u', y⟩ => z ?_
        cases y
        rfl
  unfold f_42 b_42
  simp! [rg_sh, so]
  refine w_33 r hi ?_
  unfold rg
  simp! [at2_1, at3_0, il_shs]
  refine w_23 w r.w4 r.w8 ?_
  have e0 := at_il (l := sl s i l) (i := 0) (by omega)
  have e1 := at_last (l := sl s i l) (by intro z; rw [z] at h1; simp at h1; omega)
  simp only [x_c0] at e0
  simp! [so, il_closs, il_shs]
  refine eqS _ (fun a => ?_) fun a => ?_
  · simp!
    exact k1 a
  have k2 := k2 a
  unfold word mks at k2
  simp! [e0, e1, il_closs, il_shs]
  refine iteP (fun a => ?_) fun a => ?_
  · rw [decide_eq_false a, Bool.false_and, if_neg (by decide)] at k2
    exact k2
  have a := Classical.not_not.mp a
  refine iteP (fun a2 => ?_) fun a2 => ?_
  · rw [decide_eq_false a2, Bool.and_false, if_neg (by decide)] at k2
    exact k2
  have a2 := Classical.not_not.mp a2
  rw [decide_eq_true a, decide_eq_true a2, Bool.and_self, if_pos rfl] at k2
  refine w_34 r hi ?_
  rw [optD_nn]
  try simp!
  refine iteP (fun a3 => ?_) fun a3 => ?_
  · rw [if_pos a3] at k2
    exact k2
  rw [if_neg a3] at k2
  refine w_39 r hi ?_
  simp!
  refine iteP (fun a4 => ?_) fun a4 => ?_
  · rw [if_pos a4] at k2
    exact k2
  · rw [if_neg a4] at k2
    exact k2
end
end M4
set_option Elab.async false
set_option linter.all false
set_option maxRecDepth 100000
set_option maxHeartbeats 4000000
/-! why: the program's and the law's -/
namespace M4
open PySem L2 DL
open N4 (top fDraw fMixed fSame dpD dpDs fitD fitDs)
section
variable {n : Int} {Q : Dat → Int → Prop}
def whyAt (o : Option (Nat × Int)) (i : Nat) (x : Str) : Str := match o with
  | none => x
  | some (j, _) => if i = j then "run" else x
abbrev bst (w s c : Nat) (l : List Int) : Option (Nat × Int) := bs (verR w s l) c
def whyN (w s : Nat) (l : List Int) (o : Option (Nat × Int)) (k : Nat) : List Dat := (List.range k).map fun i => DL.Dat.str (whyAt o i (word w (sl s i l)))
theorem whyN_succ {w s k : Nat} {l : List Int} {o : Option (Nat × Int)} : whyN w s l o (k + 1) = whyN w s l o k ++ [.str (whyAt o k (word w (sl s k l)))] := by
  unfold whyN
  rw [List.range_succ, List.map_append]
  rfl
theorem whyN_len {w s k : Nat} {l : List Int} {o : Option (Nat × Int)} : (whyN w s l o k).length = k := by unfold whyN; rw [List.length_map, List.length_range]
theorem whyN_shs {w s : Nat} {l : List Int} {o : Option (Nat × Int)} : ∀ k, shs (whyN w s l o k) = whyN w s l o k := fun k => by
  unfold whyN
  rw [shs_map, List.map_map]
  rfl
theorem rng_step {c i : Nat} {d : Dat} {q : List Dat} (h : (d :: q) = rngD (i : Int) (c - i)) : i < c ∧ d = .int i ∧ q = rngD ((i + 1 : Nat) : Int) (c - (i + 1)) := by
  have : c - i = (c - (i + 1)) + 1 := by
    have := congrArg List.length h
    rw [rng_len] at this
    rw [List.length_cons] at this
    omega
  rw [this, rng_cons] at h
  injection h with h1 h2
  exact ⟨by omega, h1, h2⟩
theorem rng_end {c i : Nat} (h : [] = rngD (i : Int) (c - i)) (h2 : i ≤ c) : i = c := by
  have := congrArg List.length h
  rw [rng_len] at this
  simp at this
  omega
theorem w_42' {c w b s i : Nat} {l : List Int} {o : Option (Nat × Int)} (r : Rg c w b s l) (hi : i < c) (k : Q (.str (whyAt o i (word w (sl s i l)))) n) : f_42 [rg c w b l, .int i, slD o] n Q := by
  refine w_42 r hi (fun ⟨u, e⟩ => ?_) fun e => ?_
  · subst e
    unfold whyAt at k
    simpa using k
  · cases o with
    | none => exact k
    | some p =>
      obtain ⟨j, u⟩ := p
      have : i ≠ j := fun z => e ⟨u, by rw [z]⟩
      unfold whyAt at k
      simpa [this] using k
theorem w_43 {X Y Z : Dat} {c w b s : Nat} {l : List Int} (hX : Sq X [.int c, Y]) (hY : Sq Y [.int w, .int b, Z]) (hZ : Sq Z (il l)) (r : Rg c w b s l) (k : Q (.own (whyN w s l (bst w s c l) c)) n) : f_43 [X] n Q := by
  have h1 := r.c2
  have h2 := r.c5
  have h3 := r.b8
  have h4 := r.len_le
  have s1 := sq_sh hX (show shs [Dat.int c, Y] = [Dat.int c, Y] by show [Dat.int c, Y.sh] = _; rw [sq_sh hY (il_sh3 hZ w b)])
  have so : (slD (bst w s c l)).sh = slD (bst w s c l) := by cases bst w s c l <;> rfl
  have sc : (slD (bst w s c l)).clos = true := by cases bst w s c l <;> rfl
  unfold f_43 b_43
  simp! [s1]
  refine w_31 hX hY hZ (by omega) (by omega) (by omega) r.okR ?_
  simp! [rg_sh]
  refine w_40 r ?_
  simp! [rg_sh, sc, so]
  have e0 : ∀ R : Dat → Prop, R (.int c) → dIx (rg c w b l) (.int 0) R := fun R h => ⟨_, at2_0, h⟩
  refine e0 _ ?_
  simp!
  refine ⟨by omega, by omega, ?_⟩
  rw [Int.toNat_natCast, rng_len]
  refine ⟨szl (by omega), ?_⟩
  refine lc_inv (fun q acc m => ∃ i : Nat, i ≤ c ∧ q = rngD i (c - i) ∧ acc = whyN w s l (bst w s c l) i ∧ m = n) ?_ ?_ _ _ _ ⟨0, by omega, by rw [Nat.sub_zero]; rfl, rfl, rfl⟩
  · rintro acc m ⟨i, g1, g2, rfl, rfl⟩
    have := rng_end g2 g1
    subst this
    exact k
  · rintro d q R hR acc m ⟨i, g1, g2, rfl, rfl⟩
    obtain ⟨hi, rfl, g3⟩ := rng_step g2
    simp! [rg_sh, so]
    refine w_42' r hi ?_
    exact hR _ _ ⟨i + 1, by omega, g3, whyN_succ.symm, rfl⟩
theorem w_35 {X Y Z : Dat} {c w b s i : Nat} {l : List Int} (hX : Sq X [.int c, Y]) (hY : Sq Y [.int w, .int b, Z]) (hZ : Sq Z (il l)) (r : Rg c w b s l) (hi : i < c) (k : Q (optD (img w (sl s i l))) n) : f_35 [X, .int i] n Q := by
  have h1 := r.c2
  have h2 := r.c5
  have h3 := r.b8
  have h4 := r.len_le
  have s1 := sq_sh hX (show shs [Dat.int c, Y] = [Dat.int c, Y] by show [Dat.int c, Y.sh] = _; rw [sq_sh hY (il_sh3 hZ w b)])
  unfold f_35 b_35
  simp! [s1]
  refine w_31 hX hY hZ (by omega) (by omega) (by omega) r.okR ?_
  have e0 : ∀ R : Dat → Prop, R (.int c) → dIx (rg c w b l) (.int 0) R := fun R h => ⟨_, at2_0, h⟩
  simp! [rg_sh, e_3i]
  rw [if_neg (by omega)]
  refine e0 _ ?_
  simp!
  rw [if_neg (by omega)]
  exact w_34 r hi k
end
end M4
set_option Elab.async false
set_option linter.all false
set_option maxRecDepth 100000
set_option maxHeartbeats 4000000
/-! why: the law's -/
namespace M4
open PySem L2 DL
open N4 (top fDraw fMixed fSame dpD dpDs fitD fitDs)
section
variable {n : Int} {Q : Dat → Int → Prop}
theorem x_Eq_ob {i : Nat} {o : Option (Nat × Int)} {R : Dat → Prop} (a : (∃ u, o = some (i, u)) → R (.bl true)) (b : (¬ ∃ u, o = some (i, u)) → R (.bl false)) : dEq (.int i) (slD o) R := by
  cases o with
  | none =>
    show dEq (.int i) .non R
    rw [x_Eq_in]
    exact b fun ⟨u, z⟩ => by cases z
  | some p =>
    obtain ⟨j, u⟩ := p
    show R (.bl (decide ((i : Int) = (j : Int))))
    by_cases z : i = j
    · subst z
      rw [decide_eq_true rfl]
      exact a ⟨u, rfl⟩
    · rw [decide_eq_false (by omega)]
      refine b fun ⟨u', y⟩ => z ?_
      cases y
      rfl
def wordsN (w s : Nat) (l : List Int) (k : Nat) : List Dat := (List.range k).map fun i => DL.Dat.str (word w (sl s i l))
theorem wordsN_succ {w s k : Nat} {l : List Int} : wordsN w s l (k + 1) = wordsN w s l k ++ [.str (word w (sl s k l))] := by
  unfold wordsN
  rw [List.range_succ, List.map_append]
  rfl
theorem wordsN_len {w s k : Nat} {l : List Int} : (wordsN w s l k).length = k := by unfold wordsN; rw [List.length_map, List.length_range]
theorem wordsN_shs {w s : Nat} {l : List Int} : ∀ k, shs (wordsN w s l k) = wordsN w s l k := fun k => by
  unfold wordsN
  rw [shs_map, List.map_map]
  rfl
theorem slD_sh (o : Option (Nat × Int)) : (slD o).sh = slD o := by cases o <;> rfl
theorem slD_clos (o : Option (Nat × Int)) : (slD o).clos = true := by cases o <;> rfl
theorem slD_nn (o : Option (Nat × Int)) : (slD o).isNon = o.isNone := by cases o <;> rfl
theorem s_mo : (Str.ofString "marks" = Str.ofString "older") = False := eq_false (by decide)
theorem s_io : (Str.ofString "image" = Str.ofString "older") = False := eq_false (by decide)
theorem s_fo : (Str.ofString "failed" = Str.ofString "older") = False := eq_false (by decide)
theorem enumD_len (l : List Dat) : (enumD l).length = l.length := by unfold enumD; rw [List.length_mapIdx]
theorem w_69 {c w b s : Nat} {l : List Int} (r : Rg c w b s l) (k : Q (.own (whyN w s l (bst w s c l) c)) n) : f_69 [rg c w b l] n Q := by
  have h1 := r.c2
  have h2 := r.c5
  have e0 : ∀ R : Dat → Prop, R (.int c) → dIx (rg c w b l) (.int 0) R := fun R h => ⟨_, at2_0, h⟩
  have e1 : ∀ R : Dat → Prop, R (.tup [.int w, .int b, .lst (il l)]) → dIx (rg c w b l) (.int 1) R := fun R h => ⟨_, at2_1, h⟩
  unfold f_69 b_69
  simp! [rg_sh]
  refine e1 _ ?_
  simp! [at3_0]
  refine w_56 w (by have := r.w8; omega) ?_
  simp! [rg_sh]
  refine e0 _ ?_
  simp!
  refine ⟨by omega, by omega, ?_⟩
  rw [Int.toNat_natCast]
  refine for_inv (fun q D m => ∃ (i : Nat) (o4 o5 o6 o7 : Option Dat), i ≤ c ∧ q = rngD i (c - i) ∧ D = [some (rg c w b l), some (.int (mk w)), some (slD (bs (verR w s l) i)), some (.own (wordsN w s l i)), o4, o5, o6, o7] ∧ m = n) ?_ ?_ _ _ _ ⟨0, none, none, none, none, by omega, by rw [Nat.sub_zero]; rfl, rfl, rfl⟩
  · rintro D m ⟨i, o4, o5, o6, o7, g1, g2, rfl, rfl⟩
    have := rng_end g2 g1
    subst this
    simp! [wordsN_shs, slD_sh]
    refine ⟨by rw [enumD_len, wordsN_len]; exact szl (by omega), ?_⟩
    refine lc_inv (fun q acc m' => ∃ j : Nat, j ≤ i ∧ q = (enumD (wordsN w s l i)).drop j ∧ acc = whyN w s l (bst w s i l) j ∧ m' = m) ?_ ?_ _ _ _ ⟨0, by omega, rfl, rfl, rfl⟩
    · rintro acc m' ⟨j, j1, j2, rfl, rfl⟩
      have : j = i := by
        have := congrArg List.length j2
        rw [List.length_drop, enumD_len, wordsN_len] at this
        simp at this
        omega
      subst this
      exact k
    · rintro d q R hR acc m' ⟨j, j1, j2, rfl, rfl⟩
      have hj : j < i := by
        have := congrArg List.length j2
        rw [List.length_drop, enumD_len, wordsN_len] at this
        simp at this
        omega
      have hq : d = .tup [.int j, .str (word w (sl s j l))] ∧ q = (enumD (wordsN w s l i)).drop (j + 1) := by
        have e := List.drop_eq_getElem_cons (l := enumD (wordsN w s l i)) (i := j) (by rw [enumD_len, wordsN_len]; exact hj)
        rw [e] at j2
        injection j2 with j2 j3
        refine ⟨?_, j3⟩
        rw [j2]
        unfold enumD
        rw [List.getElem_mapIdx]
        unfold wordsN
        rw [List.getElem_map, List.getElem_range]
      obtain ⟨rfl, hq⟩ := hq
      simp! [slD_sh]
      refine x_Eq_ob (fun ⟨u, hu⟩ => ?_) fun hu => ?_
      · simp!
        refine hR _ _ ⟨j + 1, by omega, hq, ?_, rfl⟩
        rw [whyN_succ]
        show _ = whyN w s l _ j ++ [.str (whyAt (bs (verR w s l) i) j _)]
        rw [hu]
        simp [whyAt]
      · simp!
        refine hR _ _ ⟨j + 1, by omega, hq, ?_, rfl⟩
        rw [whyN_succ]
        show _ = whyN w s l _ j ++ [.str (whyAt (bs (verR w s l) i) j _)]
        cases z : bs (verR w s l) i with
        | none => rfl
        | some p =>
          obtain ⟨j', u⟩ := p
          have : j ≠ j' := fun y => hu ⟨u, by rw [z, y]⟩
          simp [whyAt, this]
  · rintro d q nx hn D m ⟨i, o4, o5, o6, o7, g1, g2, rfl, rfl⟩
    obtain ⟨hi, rfl, g3⟩ := rng_step g2
    have h3 := r.sl_len hi
    have h4 := r.s2
    have h5 := r.b3
    have a0 := at_il (l := sl s i l) (i := 0) (by omega)
    have a1 := at_il (l := sl s i l) (i := 1) (by omega)
    have a2 := at_il (l := sl s i l) (i := 2) (by omega)
    have al := at_last (l := sl s i l) (by intro z; rw [z] at h3; simp at h3; omega)
    simp only [x_c0, x_c1, x_c2] at a0 a1 a2
    simp! [rg_sh]
    refine w_66 r hi ?_
    simp! [rg_sh]
    refine w_67 r hi ?_
    simp! [il_closs, il_shs, a0, a1, a2, al, optD_sh, rg_sh]
    simp! [slD_sh, slD_clos, slD_nn, s_mo, s_io, s_fo, optD_nn]
    have sz : (wordsN w s l i).length < sizeLine := by rw [wordsN_len]; exact Nat.lt_of_lt_of_le (show i < 1000 by omega) (by decide)
    -- not one that can run
    have fin : ∀ (wd : Str) (o5 o6 o7 : Option Dat), wd = word w (sl s i l) → verR w s l i = none → nx [some (rg c w b l), some (.int (mk w)), some (slD (bs (verR w s l) i)), some (.own (wordsN w s l i ++ [.str wd])), some (.int i), o5, o6, o7] m := fun wd o5 o6 o7 e1 e2 => by
      refine hn _ _ ⟨i + 1, some (.int i), o5, o6, o7, by omega, g3, ?_, rfl⟩
      rw [bs, e2, wordsN_succ, e1]
    have vn : ¬ (mks w (sl s i l) = true) → verR w s l i = none := fun h => by unfold verR verW; rw [if_neg h]
    have wn : ¬ (mks w (sl s i l) = true) → word w (sl s i l) = "marks" := fun h => by unfold word; rw [if_neg h]
    refine iteP (fun h => ⟨sz, ?_⟩) fun h0 => ?_
    · have : ¬ (mks w (sl s i l) = true) := fun z => by unfold mks at z; simp only [Bool.and_eq_true, decide_eq_true_eq] at z; exact h z.1
      exact fin _ _ _ _ (wn this).symm (vn this)
    refine iteP (fun h => ⟨sz, ?_⟩) fun h1 => ?_
    · have : ¬ (mks w (sl s i l) = true) := fun z => by unfold mks at z; simp only [Bool.and_eq_true, decide_eq_true_eq] at z; exact h z.2
      exact fin _ _ _ _ (wn this).symm (vn this)
    have mok : mks w (sl s i l) = true := by unfold mks; simp only [Bool.and_eq_true, decide_eq_true_eq]; exact ⟨Classical.not_not.mp h0, Classical.not_not.mp h1⟩
    refine iteP (fun h => ⟨sz, ?_⟩) fun h2 => ?_
    · refine fin _ _ _ _ ?_ ?_
      · unfold word
        rw [if_pos mok, if_pos h]
      · unfold verR verW
        rw [if_pos mok]
        cases e : img w (sl s i l) with
        | none => rfl
        | some x => rw [e] at h; cases h
    cases e : img w (sl s i l) with
    | none => rw [e] at h2; exact (h2 rfl).elim
    | some x =>
      have wd : ∀ P : Prop, [Decidable P] → True := fun _ _ => trivial
      have vv : verW w (sl s i l) = if (sl s i l).getD 1 0 = 0 ∧ (sl s i l).getD 2 0 ≠ 0 then none else some (x.getD 0 0) := by
        unfold verW
        rw [if_pos mok, e]
      have ww : word w (sl s i l) = if (verW w (sl s i l)).isSome = true then Str.ofString "older" else Str.ofString "failed" := by
        unfold word
        rw [if_pos mok, if_neg (by rw [e]; exact Bool.false_ne_true)]
      refine iteP (fun p1 => iteP (fun p2 => ⟨sz, fin _ _ _ _ ?_ ?_⟩) fun p2 => ⟨sz, ?_⟩) fun p1 => ⟨sz, ?_⟩
      · rw [ww, show verW w (sl s i l) = none from vv.trans (if_pos ⟨p1, p2⟩)]
        rfl
      · exact vv.trans (if_pos ⟨p1, p2⟩)
      all_goals
        have hv : verR w s l i = some (x.getD 0 0) := vv.trans (if_neg fun z => by first | exact p2 z.2 | exact p1 z.1)
        have ww2 : word w (sl s i l) = "older" := by
          rw [ww, show verW w (sl s i l) = some (x.getD 0 0) from hv, if_pos (show (some (x.getD 0 0)).isSome = true from rfl)]
        have x0 := img_at0 e (r.sl_wd i)
        have a3 := at_il (l := x) (i := 0) x0.1
        simp only [x_c0] at a3
        refine iteP (fun z => ?_) fun z => ?_
        · refine hn _ _ ⟨i + 1, some (.int i), some (.own (il (sl s i l))), some (optD (some x)), some (.str "older"), by omega, g3, ?_, rfl⟩
          rw [wordsN_succ, ww2, bs, hv]
          cases y : bs (verR w s l) i with
          | none => rfl
          | some p => rw [y] at z; cases z
        · cases y : bs (verR w s l) i with
          | none => rw [y] at z; exact (z rfl).elim
          | some p =>
            obtain ⟨j, u⟩ := p
            obtain ⟨hj, hvj⟩ := bs_ver y
            obtain ⟨x', hx', ex'⟩ := verR_img hvj
            have x0' := img_at0 hx' (r.sl_wd j)
            have a4 := at_il (l := x') (i := 0) x0'.1
            simp only [x_c0, ex'] at a4
            simp! [optD, a3, slD]
            refine w_67 r (by omega) ?_
            rw [hx']
            simp! [optD, a4]
            refine iteP (fun lt => ?_) fun lt => ?_
            · refine hn _ _ ⟨i + 1, some (.int i), some (.own (il (sl s i l))), some (optD (some x)), some (.str "older"), by omega, g3, ?_, rfl⟩
              rw [wordsN_succ, ww2, bs, hv, y]
              dsimp only
              rw [if_pos lt]
              rfl
            · refine hn _ _ ⟨i + 1, some (.int i), some (.own (il (sl s i l))), some (optD (some x)), some (.str "older"), by omega, g3, ?_, rfl⟩
              rw [wordsN_succ, ww2, bs, hv, y]
              dsimp only
              rw [if_neg lt]
              rfl
end
end M4
set_option Elab.async false
set_option linter.all false
set_option maxRecDepth 100000
set_option maxHeartbeats 4000000
/-! the law's own run -/
namespace M4
open PySem L2 DL
open N4 (top fDraw fMixed fSame dpD dpDs fitD fitDs)
section
variable {n : Int} {Q : Dat → Int → Prop}
theorem word_run (w : Nat) (ws : List Int) : word w ws ≠ "run" := by
  unfold word
  split
  · split
    · decide
    · split <;> decide
  · decide
theorem whyN_flat {w s : Nat} {l : List Int} {o : Option (Nat × Int)} (k : Nat) : (whyN w s l o k).all Dat.flat = true := by
  unfold whyN
  rw [List.all_map, List.all_eq_true]
  intro x _
  rfl
theorem whyN_at {w s k i : Nat} {l : List Int} {o : Option (Nat × Int)} (h : i < k) : (whyN w s l o k)[i]? = some (.str (whyAt o i (word w (sl s i l)))) := by
  unfold whyN
  rw [List.getElem?_map, List.getElem?_range h]
  rfl
theorem why_run {o : Option (Nat × Int)} {i w : Nat} {ws : List Int} : (whyAt o i (word w ws) == "run") = (match o with | none => false | some (j, _) => decide (i = j)) := by
  cases o with
  | none => exact beq_eq_false_iff_ne.mpr (word_run w ws)
  | some p =>
    obtain ⟨j, u⟩ := p
    unfold whyAt
    by_cases h : i = j
    · simp [h]
    · simp only [h, if_false, decide_false]
      exact beq_eq_false_iff_ne.mpr (word_run w ws)
theorem why_in {w s c : Nat} {l : List Int} : inF (.str "run") (whyN w s l (bst w s c l) c) = (bst w s c l).isSome := by
  unfold inF
  cases e : bst w s c l with
  | none =>
    rw [show (none : Option (Nat × Int)).isSome = false from rfl, List.any_eq_false]
    intro x hx
    obtain ⟨i, hi, rfl⟩ := List.mem_map.mp hx
    show ¬ ((whyAt none i _ == "run") = true)
    rw [why_run]
    exact Bool.false_ne_true
  | some p =>
    obtain ⟨j, u⟩ := p
    obtain ⟨hj, _⟩ := bs_ver e
    rw [show (some (j, u)).isSome = true from rfl, List.any_eq_true]
    refine ⟨_, List.mem_of_getElem? (whyN_at hj), ?_⟩
    show (whyAt (some (j, u)) j _ == "run") = true
    rw [why_run]
    simp
theorem w_70 {c w b s : Nat} {l : List Int} (r : Rg c w b s l) (k : Q (slD (bst w s c l)) n) : f_70 [rg c w b l] n Q := by
  unfold f_70 b_70
  simp! [rg_sh]
  refine w_69 r ?_
  have fl := whyN_flat (w := w) (s := s) (l := l) (o := bst w s c l) c
  simp only [dIn, dIndex]
  simp! [whyN_shs, why_in]
  refine ⟨rfl, fl, iteP (fun h => ?_) fun h => ?_⟩
  · cases e : bst w s c l with
    | none => rw [e] at h; cases h
    | some p =>
      obtain ⟨j, u⟩ := p
      obtain ⟨hj, _⟩ := bs_ver e
      rw [e] at k
      have fl := whyN_flat (w := w) (s := s) (l := l) (o := some (j, u)) c
      refine ⟨rfl, fl, j, _, whyN_at hj, ?_, ?_, k⟩
      · show (whyAt (some (j, u)) j _ == "run") = true
        rw [why_run]
        simp
      · intro m z hm hz
        rw [whyN_at (by omega)] at hz
        cases hz
        show (whyAt (some (j, u)) m _ == "run") = false
        rw [why_run]
        simp
        omega
  · cases e : bst w s c l with
    | none => rw [e] at k; exact k
    | some p => rw [e] at h; exact (h rfl).elim
end
end M4
set_option Elab.async false
set_option linter.all false
set_option maxRecDepth 100000
set_option maxHeartbeats 4000000
/-! what an op does: shapes alone -/
namespace M4
open PySem L2 DL
open N4 (top fDraw fMixed fSame dpD dpDs fitD fitDs)
section
variable {n : Int} {Q : Dat → Int → Prop}
theorem bit01 (A i : Nat) : ((A / 2 ^ i % 2 : Nat) = 0 ∨ (A / 2 ^ i % 2 : Nat) = 1) := by omega
theorem mod_bit (A i : Nat) : A % 2 ^ (i + 1) = A % 2 ^ i + 2 ^ i * (A / 2 ^ i % 2) := by
  rw [Nat.pow_succ, Nat.mod_mul]
theorem w_60 {a b : Int} (ha : 0 ≤ a) (hb : 0 ≤ b) (ha2 : a < 2 ^ 28) (hb2 : b < 2 ^ 28) (k : ∀ r, 0 ≤ r → r ≤ a → r ≤ b → Q (.int r) n) : f_60 [.int a, .int b] n Q := by
  obtain ⟨A, rfl⟩ : ∃ A : Nat, a = A := ⟨a.toNat, by omega⟩
  obtain ⟨B, rfl⟩ : ∃ B : Nat, b = B := ⟨b.toNat, by omega⟩
  unfold f_60 b_60
  simp!
  refine ⟨32, wh_inv (fun f D m => ∃ (i fd : Nat), i + f = 32 ∧ i ≤ 31 ∧ fd ≤ A % 2 ^ i ∧ fd ≤ B % 2 ^ i ∧ D = [some (.int A), some (.int B), some (.int fd), some (.int ((2 ^ i : Nat) : Int))] ∧ m = n) (fun D m ⟨i, fd, h1, h2, _⟩ => by omega) ?_ 32 _ n ⟨0, 0, rfl, by decide, by omega, by omega, rfl, rfl⟩⟩
  rintro f nx hn D m ⟨i, fd, h1, h2, h3, h4, rfl, rfl⟩
  simp!
  have hp : 0 < 2 ^ i := Nat.pow_pos (by decide)
  refine iteP (fun c => ?_) fun c => ?_
  · have hi : i < 29 := by
      by_cases z : i < 29
      · exact z
      · have : (2 : Nat) ^ 29 ≤ 2 ^ i := Nat.pow_le_pow_right (by decide) (by omega)
        have e : ((2 : Int) ^ 28) = 268435456 := by decide
        have e2 : (2 : Nat) ^ 29 = 536870912 := by decide
        rw [e2] at this
        split at c <;> omega
    have hb30 : 2 ^ i < 1073741824 := by
      have : (2 : Nat) ^ i ≤ 2 ^ 29 := Nat.pow_le_pow_right (by decide) (by omega)
      have e2 : (2 : Nat) ^ 29 = 536870912 := by decide
      omega
    have q1 : ((A : Nat) : Int) / ((2 ^ i : Nat) : Int) % 2 = ((A / 2 ^ i % 2 : Nat) : Int) := by simp
    have q2 : ((B : Nat) : Int) / ((2 ^ i : Nat) : Int) % 2 = ((B / 2 ^ i % 2 : Nat) : Int) := by simp
    rw [q1, q2]
    have m1 := mod_bit A i
    have m2 := mod_bit B i
    have s1 : ((2 ^ i : Nat) : Int) * ((A / 2 ^ i % 2 : Nat) : Int) * ((B / 2 ^ i % 2 : Nat) : Int) = ((2 ^ i * (A / 2 ^ i % 2) * (B / 2 ^ i % 2) : Nat) : Int) := by simp
    have s2 : 2 ^ i * (A / 2 ^ i % 2) * (B / 2 ^ i % 2) ≤ 2 ^ i * (A / 2 ^ i % 2) := by
      rcases bit01 B i with z | z <;> rw [z]
      · simp
      · rw [Nat.mul_one]; exact Nat.le_refl _
    have s3 : 2 ^ i * (A / 2 ^ i % 2) * (B / 2 ^ i % 2) ≤ 2 ^ i * (B / 2 ^ i % 2) := by
      rcases bit01 A i with z | z <;> rw [z]
      · simp
      · rw [Nat.mul_one]; exact Nat.le_refl _
    rw [s1]
    refine ⟨⟨by omega, by omega⟩, .inl ⟨by omega, by omega⟩, ⟨by omega, by omega⟩, ?_⟩
    refine ⟨?_, .inl ⟨by decide, by decide⟩, hn _ _ ⟨i + 1, fd + 2 ^ i * (A / 2 ^ i % 2) * (B / 2 ^ i % 2), by omega, by omega, by omega, by omega, ?_, rfl⟩⟩
    · right
      rcases bit01 B i with z | z <;> rw [z] <;> decide
    · rw [Nat.pow_succ]
      simp
      omega
  · refine k _ (by omega) ?_ ?_
    · have := Nat.mod_le A (2 ^ i); omega
    · have := Nat.mod_le B (2 ^ i); omega
end
end M4
set_option Elab.async false
set_option linter.all false
set_option maxRecDepth 100000
set_option maxHeartbeats 4000000
/-! ops -/
namespace M4
open PySem L2 DL
open N4 (top fDraw fMixed fSame dpD dpDs fitD fitDs)
section
variable {n : Int} {Q : Dat → Int → Prop}
/-- a store, as data -/
def stD (w b : Nat) (l : List Int) : Dat := .tup [.int w, .int b, .lst (il l)]
theorem stD_sh {w b : Nat} {l : List Int} : (stD w b l).sh = stD w b l := by unfold stD; simp only [Dat.sh, shs]
/-- an op on N words in blocks of b -/
def Op (w b N : Nat) (d : Dat) : Prop := (∃ (i : Nat) (v : Int), d = .tup [.str "write", .int i, .int v] ∧ i < N ∧ 0 ≤ v ∧ v < 2 ^ w) ∨ ∃ k : Nat, d = .tup [.str "erase", .int k] ∧ k * b + b ≤ N
theorem s_ew : (Str.ofString "erase" = Str.ofString "write") = False := eq_false (by decide)
theorem il_set (l : List Int) (i : Nat) (x : Int) : (il l).set i (.int x) = il (l.set i x) := (List.map_set ..).symm
theorem wds_set {w : Nat} {l : List Int} {i : Nat} {x : Int} (h : wds w l = true) (hx : 0 ≤ x ∧ x < 2 ^ w) : wds w (l.set i x) = true := by
  unfold wds at *
  rw [List.all_eq_true] at *
  intro y hy
  rcases List.mem_or_eq_of_mem_set hy with z | z
  · exact h y z
  · rw [z]
    simp only [Bool.and_eq_true, decide_eq_true_eq]
    exact hx
theorem wds_rep {w : Nat} (k : Nat) : wds w (List.replicate k (on w)) = true := by
  unfold wds
  rw [List.all_eq_true]
  intro x hx
  have := List.eq_of_mem_replicate hx
  subst this
  have := p2pos w
  have e : on w = 2 ^ w - 1 := rfl
  simp only [Bool.and_eq_true, decide_eq_true_eq]
  omega
theorem ixN_nat {N i : Nat} (h : i < N) : ixN N (i : Int) = some i := by
  unfold ixN
  rw [if_pos (by omega), if_pos (by omega), Int.toNat_natCast]
theorem p28 {w : Nat} (h : w ≤ 8) : (2 : Int) ^ w ≤ 256 := by
  have := p2le h
  have e : (2 : Int) ^ 8 = 256 := by decide
  omega
theorem w_61 {w b : Nat} {l : List Int} {d : Dat} (w8 : w ≤ 8) (b8 : b ≤ 8) (hl : l.length ≤ 500) (hd : wds w l = true) (ho : Op w b l.length d) (k : ∀ l', l'.length = l.length → wds w l' = true → Q (stD w b l') n) : f_61 [stD w b l, d] n Q := by
  unfold f_61 b_61
  rcases ho with ⟨i, v, rfl, hi, hv0, hv⟩ | ⟨j, rfl, hj⟩
  · unfold stD
    have a := at_il (l := l) (i := i) hi
    have hx := wds_at hd (getD_mem hi)
    have h8 := p28 w8
    simp! [il_shs, il_closs, at3_0, at3_1, at3_2, a, il_len]
    refine w_60 hx.1 hv0 (by omega) (by omega) fun r r0 r1 r2 => ?_
    simp! [il_shs, il_closs, at3_0, at3_1, at3_2, il_len, ixN_nat hi, il_set]
    exact k (l.set i r) (by rw [List.length_set]) (wds_set hd ⟨r0, by omega⟩)
  · unfold stD
    simp! [il_shs, il_closs, at3_0, at3_1, at3_2, at2_0, at2_1, s_ew]
    refine w_58 w (by omega) ?_
    have e : (j : Int) * (b : Int) = ((j * b : Nat) : Int) := by simp
    have e2 : ((j * b : Nat) : Int) + (b : Int) = ((j * b + b : Nat) : Int) := by simp
    simp! [rep_il, il_closs, il_shs, at2_1, Int.toNat_natCast, e, e2]
    rw [il_take, il_drop, il_app', il_app', il_shs, il_len, il_len, List.length_replicate]
    refine ⟨by omega, by omega, szl (by omega), .inr ⟨by omega, by omega⟩, .inr ⟨by omega, by omega⟩, by omega, by omega, by omega, szl (by omega), ?_⟩
    refine k _ ?_ (wds_app (wds_app (wds_take hd _) (wds_rep _)) (wds_drop hd _))
    simp only [List.length_append, List.length_take, List.length_drop, List.length_replicate]
    omega
end
end M4
set_option Elab.async false
set_option linter.all false
set_option maxRecDepth 100000
set_option maxHeartbeats 4000000
/-! many ops -/
namespace M4
open PySem L2 DL
open N4 (top fDraw fMixed fSame dpD dpDs fitD fitDs)
section
variable {n : Int} {Q : Dat → Int → Prop}
theorem view_at : ∀ (R : List Bool) (D : DSt) (k : Nat) (d : Dat), R[k]? = some true → D[k]? = some (some d) → (viewD R D)[k]? = some (some d.sh)
  | [], D, k, d, h, _ => by simp at h
  | r :: R, [], k, d, _, h => by simp at h
  | r :: R, x :: D, 0, d, h1, h2 => by
    simp at h1 h2
    subst h1 h2
    rfl
  | r :: R, x :: D, k + 1, d, h1, h2 => view_at R D k d (by simpa using h1) (by simpa using h2)
theorem sett_id : ∀ (R : List Bool) (D : DSt), (∀ (k : Nat) (d : Dat), R[k]? = some true → D[k]? = some (some d) → d.sh = d) → settD R D = D
  | [], D, _ => rfl
  | r :: R, [], _ => rfl
  | r :: R, x :: D, h => by
    show (if r = true then x.map Dat.sh else x) :: settD R D = _
    rw [sett_id R D fun k d h1 h2 => h (k + 1) d (by simpa using h1) (by simpa using h2)]
    congr 1
    split
    · rename_i e
      cases x with
      | none => rfl
      | some d => rw [Option.map_some, h 0 d (by simp [e]) (by simp)]
    · rfl
/-- R reads i and j alone -/
def opsMask (R : List Bool) (i j : Nat) : Bool := decide (R[i]? = some true) && (decide (R[j]? = some true) && (List.range R.length).all fun k => decide (R[k]? = some true → k = i ∨ k = j))
theorem opsMask_of {R : List Bool} {i j : Nat} (h : opsMask R i j = true) : R[i]? = some true ∧ R[j]? = some true ∧ ∀ k, R[k]? = some true → k = i ∨ k = j := by
  unfold opsMask at h
  simp only [Bool.and_eq_true, decide_eq_true_eq] at h
  refine ⟨h.1, h.2.1, fun k hk => ?_⟩
  have hl : k < R.length := (List.getElem?_eq_some_iff.mp hk).1
  exact of_decide_eq_true (List.all_eq_true.mp h.2.2 k (List.mem_range.mpr hl)) hk
theorem op_sh {w b N : Nat} {d : Dat} (h : Op w b N d) : d.sh = d := by
  rcases h with ⟨i, v, rfl, _⟩ | ⟨k, rfl, _⟩ <;> rfl
theorem ops_go {w b N i j : Nat} {R : List Bool} {K : DEnds} (w8 : w ≤ 8) (b8 : b ≤ 8) (hN : N ≤ 500) (hR : opsMask R i j = true) (hij : i ≠ j) : ∀ (ops : List Dat) (l : List Int) (D : DSt) (m : Int), i < D.length → j < D.length → D[i]? = some (some (stD w b l)) → l.length = N → wds w l = true → (∀ d ∈ ops, Op w b N d) →
    (∀ oj l', l'.length = N → wds w l' = true → K.nx ((D.set j oj).set i (some (stD w b l'))) m) → dForGo (dgName j) (dSet i R (dCall 2 f_61 (dCons (dVar i) (dCons (dVar j) dNil)))) K ops D m
  | [], l, D, m, hi, hj, hD, hl, hd, _, k => by
    have := k (D[j]) l hl hd
    have e1 : D.set j D[j] = D := List.set_getElem_self hj
    have e2 : D.set i (some (stD w b l)) = D := by
      have : D[i] = some (stD w b l) := by
        rw [List.getElem?_eq_getElem hi] at hD
        exact Option.some.inj hD
      rw [← this]
      exact List.set_getElem_self hi
    rw [e1, e2] at this
    exact this
  | d :: ops, l, D, m, hi, hj, hD, hl, hd, ho, k => by
    obtain ⟨r1, r2, r3⟩ := opsMask_of hR
    have od := ho d (List.mem_cons_self ..)
    have g1 : (D.set j (some d))[i]? = some (some (stD w b l)) := by rw [List.getElem?_set_ne (Ne.symm hij)]; exact hD
    have g2 : (D.set j (some d))[j]? = some (some d) := List.getElem?_set_self hj
    refine ⟨_, view_at R _ i _ r1 g1, _, view_at R _ j _ r2 g2, rfl, ?_⟩
    show f_61 [(stD w b l).sh.sh, d.sh.sh] m _
    rw [stD_sh, stD_sh, op_sh od, op_sh od]
    refine w_61 w8 b8 (by omega) hd (by rw [hl]; exact od) fun l' hl' hd' => ?_
    have e : aftD R (stD w b l').clos (D.set j (some d)) = D.set j (some d) := by
      unfold aftD
      split
      · rfl
      · refine sett_id R _ fun q d' h1 h2 => ?_
        rcases r3 q h1 with rfl | rfl
        · rw [g1] at h2
          cases h2
          exact stD_sh
        · rw [g2] at h2
          cases h2
          exact op_sh od
    show dForGo _ _ K ops ((aftD R (stD w b l').clos (D.set j (some d))).set i (some (stD w b l'))) m
    rw [e]
    refine ops_go w8 b8 hN hR hij ops l' _ m (by simp [hi]) (by simp [hj]) ?_ (by omega) hd' (fun x hx => ho x (List.mem_cons_of_mem _ hx)) fun oj l2 h1 h2 => ?_
    · exact List.getElem?_set_self (by simp [hi])
    · have := k oj l2 h1 h2
      rw [List.set_comm _ _ hij, List.set_set, List.set_set]
      exact this
theorem cut_mem {l : List Dat} {a b : Option Int} {d : Dat} (h : d ∈ DL.cutD l a b) : d ∈ l := by
  unfold DL.cutD at h
  exact List.mem_of_mem_drop (List.mem_of_mem_take h)
end
end M4
set_option Elab.async false
set_option linter.all false
set_option maxRecDepth 100000
set_option maxHeartbeats 4000000
/-! torn words -/
namespace M4
open PySem L2 DL
open N4 (top fDraw fMixed fSame dpD dpDs fitD fitDs)
section
variable {n : Int} {Q : Dat → Int → Prop}
theorem shs_id {l : List Dat} (h : ∀ d ∈ l, d.sh = d) : shs l = l := by
  induction l with
  | nil => rfl
  | cons d l ih =>
    unfold shs
    rw [h d (List.mem_cons_self ..), ih fun x hx => h x (List.mem_cons_of_mem _ hx)]
theorem wds_succ {w a : Nat} {t : List Int} (h : wds w (t.take a) = true) (ha : a < t.length) (hx : 0 ≤ t.getD a 0 ∧ t.getD a 0 < 2 ^ w) : wds w (t.take (a + 1)) = true := by
  rw [List.take_add_one, List.getElem?_eq_getElem ha]
  refine wds_app h ?_
  have e : t.getD a 0 = t[a] := by rw [List.getD_eq_getElem?_getD, List.getElem?_eq_getElem ha]; rfl
  rw [e] at hx
  show (decide (0 ≤ t[a]) && decide (t[a] < 2 ^ w) && true) = true
  simp only [Bool.and_true, Bool.and_eq_true, decide_eq_true_eq]
  exact hx
/-- where an op begins, and how many words it takes -/
def opB (b : Nat) : Dat → Nat × Nat
  | .tup [.str _, .int i, .int _] => (i.toNat, 1)
  | .tup [.str _, .int k] => (k.toNat * b, b)
  | _ => (0, 0)
/-- small words: any number that an and may see -/
def smallL (t : List Int) : Prop := ∀ x ∈ t, 0 ≤ x ∧ x < 2 ^ 28
theorem w_64 {w b i : Nat} {l t : List Int} {ops : List Dat} {op : Dat} (w8 : w ≤ 8) (b8 : b ≤ 8) (hl : l.length ≤ 500) (hd : wds w l = true) (ho : ∀ d ∈ ops, Op w b l.length d) (hi : ops[i]? = some op) (ht : smallL t) (h1000 : ops.length ≤ 1000)
    (k1 : Q (.bl false) n) (k2 : t.length = (opB b op).2 → wds w t = true → Q (.bl true) n) : f_64 [stD w b l, .lst ops, .int i, .lst (il t)] n Q := by
  have so : shs ops = ops := shs_id fun d h => op_sh (ho d h)
  have sc : shs (DL.cutD ops none (some (i : Int))) = DL.cutD ops none (some (i : Int)) := shs_id fun d h => op_sh (ho d (cut_mem h))
  unfold f_64 b_64
  simp! [stD_sh, so, sc, il_shs]
  refine ops_go (N := l.length) w8 b8 hl (by decide) (by decide) _ l _ n (by show 0 < 16; decide) (by show 4 < 16; decide) rfl rfl hd (fun d h => ho d (cut_mem h)) fun oj l' hl' hd' => ?_
  have st : stD w b l' = .tup [.int w, .int b, .lst (il l')] := rfl
  have ai : atI ops (i : Int) = some op := by rw [at_nat]; exact hi
  have oo : Op w b l'.length op := by rw [hl']; exact ho op (List.mem_of_getElem? hi)
  have o1 := op_sh oo
  have oo2 := oo
  have w28 := p28 w8
  rcases oo with ⟨q, v, rfl, hq, hv0, hv⟩ | ⟨q, rfl, hq⟩
  · simp! [st, il_shs, so, il_closs, ai, o1, at3_0, at3_1]
    refine w_61 (l := l') w8 b8 (by omega) hd' oo2 fun l2 h2 hd2 => ?_
    unfold stD
    simp! [il_shs, at3_2, il_len]
    refine iteP (fun _ => k1) fun hm => ⟨by omega, by omega, ?_⟩
    have hm : t.length = 1 := by omega
    have tx : t.length = (opB b (.tup [.str "write", .int q, .int v])).2 := hm
    refine for_inv (fun r D m => ∃ (a : Nat) (o11 o12 o13 o14 o15 : Option Dat), a ≤ 1 ∧ r = rngD a (1 - a) ∧ wds w (t.take a) = true ∧ D = [some (.tup [.int w, .int b, .lst (il l')]), some (.lst ops), some (.int i), some (.lst (il t)), some (.tup [.str "write", .int q, .int v]), some (.int w), some (.int b), some (.lst (il l')), some (.int q), some (.int 1), some (.lst (il l2)), o11, o12, o13, o14, o15] ∧ m = n) ?_ ?_ _ _ _ ⟨0, none, none, none, none, none, by omega, rfl, rfl, rfl, rfl⟩
    · rintro D m ⟨a, o11, o12, o13, o14, o15, g1, g2, g3, rfl, rfl⟩
      have := rng_end g2 g1
      subst this
      simp!
      exact k2 tx (by rw [List.take_of_length_le (by omega)] at g3; exact g3)
    · rintro d r nx hn D m ⟨a, o11, o12, o13, o14, o15, g1, g2, g3, rfl, rfl⟩
      obtain ⟨ha, rfl, g4⟩ := rng_step g2
      have e1 : (q : Int) + (a : Int) = ((q + a : Nat) : Int) := by simp
      have a1 := at_il (l := l') (i := q + a) (by omega)
      have a2 := at_il (l := l2) (i := q + a) (by omega)
      have a3 := at_il (l := t) (i := a) (by omega)
      have b1 := wds_at hd' (getD_mem (l := l') (i := q + a) (by omega))
      have b2 := wds_at hd2 (getD_mem (l := l2) (i := q + a) (by omega))
      have b3 := ht _ (getD_mem (l := t) (i := a) (by omega))
      simp! [il_shs, e1, a1, a2, a3, at3_0, o1]
      refine w_60 b2.1 b3.1 (by omega) b3.2 fun r1 _ _ _ => ?_
      simp!
      refine iteP (fun _ => k1) fun _ => ?_
      refine w_60 b3.1 b1.1 b3.2 (by omega) fun r2 _ _ c3 => ?_
      simp! [il_shs, a3]
      refine iteP (fun _ => k1) fun c4 => ?_
      have c4 := Classical.not_not.mp c4
      refine hn _ _ ⟨a + 1, some (.int a), some (.int (l'.getD (q + a) 0)), some (.int (l2.getD (q + a) 0)), some (.int (l2.getD (q + a) 0)), some (.int (l'.getD (q + a) 0)), by omega, g4, ?_, rfl, rfl⟩
      exact wds_succ g3 (by omega) ⟨b3.1, by omega⟩
  · have e0 : (q : Int) * (b : Int) = ((q * b : Nat) : Int) := by simp
    simp! [st, il_shs, so, il_closs, ai, o1, at2_0, at2_1, s_ew, e0]
    refine ⟨.inr ⟨by omega, by omega⟩, ?_⟩
    refine w_61 (l := l') w8 b8 (by omega) hd' oo2 fun l2 h2 hd2 => ?_
    unfold stD
    simp! [il_shs, at3_2, il_len]
    refine iteP (fun _ => k1) fun hm => ⟨by omega, by omega, ?_⟩
    have hm : t.length = b := by omega
    have tx : t.length = (opB b (.tup [.str "erase", .int q])).2 := hm
    rw [Int.toNat_natCast]
    refine for_inv (fun r D m => ∃ (a : Nat) (o11 o12 o13 o14 o15 : Option Dat), a ≤ b ∧ r = rngD a (b - a) ∧ wds w (t.take a) = true ∧ D = [some (.tup [.int w, .int b, .lst (il l')]), some (.lst ops), some (.int i), some (.lst (il t)), some (.tup [.str "erase", .int q]), some (.int w), some (.int b), some (.lst (il l')), some (.int ((q * b : Nat) : Int)), some (.int b), some (.lst (il l2)), o11, o12, o13, o14, o15] ∧ m = n) ?_ ?_ _ _ _ ⟨0, none, none, none, none, none, by omega, by rw [Nat.sub_zero]; rfl, rfl, rfl, rfl⟩
    · rintro D m ⟨a, o11, o12, o13, o14, o15, g1, g2, g3, rfl, rfl⟩
      have := rng_end g2 g1
      subst this
      simp!
      exact k2 tx (by rw [List.take_of_length_le (by omega)] at g3; exact g3)
    · rintro d r nx hn D m ⟨a, o11, o12, o13, o14, o15, g1, g2, g3, rfl, rfl⟩
      obtain ⟨ha, rfl, g4⟩ := rng_step g2
      have e1 : ((q * b : Nat) : Int) + (a : Int) = ((q * b + a : Nat) : Int) := by simp
      have a1 := at_il (l := l') (i := q * b + a) (by omega)
      have a2 := at_il (l := l2) (i := q * b + a) (by omega)
      have a3 := at_il (l := t) (i := a) (by omega)
      have b1 := wds_at hd' (getD_mem (l := l') (i := q * b + a) (by omega))
      have b2 := wds_at hd2 (getD_mem (l := l2) (i := q * b + a) (by omega))
      have b3 := ht _ (getD_mem (l := t) (i := a) (by omega))
      simp! [il_shs, e1, a1, a2, a3, at2_0, o1, s_ew]
      refine w_60 b1.1 b3.1 (by omega) b3.2 fun r1 _ _ _ => ?_
      simp!
      refine iteP (fun _ => k1) fun _ => ?_
      refine w_60 b3.1 b2.1 b3.2 (by omega) fun r2 _ _ c3 => ?_
      simp! [il_shs, a3]
      refine iteP (fun _ => k1) fun c4 => ?_
      have c4 := Classical.not_not.mp c4
      refine hn _ _ ⟨a + 1, some (.int a), some (.int (l'.getD (q * b + a) 0)), some (.int (l2.getD (q * b + a) 0)), some (.int (l'.getD (q * b + a) 0)), some (.int (l2.getD (q * b + a) 0)), by omega, g4, ?_, rfl, rfl⟩
      exact wds_succ g3 (by omega) ⟨b3.1, by omega⟩
/-- an op's words lie within -/
theorem opB_in {w b N : Nat} {d : Dat} (h : Op w b N d) : (opB b d).1 + (opB b d).2 ≤ N := by
  rcases h with ⟨i, v, rfl, hi, _⟩ | ⟨k, rfl, hk⟩
  · show ((i : Nat) : Int).toNat + 1 ≤ N
    omega
  · show ((k : Nat) : Int).toNat * b + b ≤ N
    rw [Int.toNat_natCast]
    exact hk
theorem w_63 {w b i : Nat} {l t : List Int} {ops : List Dat} {op : Dat} (w8 : w ≤ 8) (b8 : b ≤ 8) (hl : l.length ≤ 500) (hd : wds w l = true) (ho : ∀ d ∈ ops, Op w b l.length d) (hi : ops[i]? = some op) (ht : t.length = (opB b op).2) (htw : wds w t = true)
    (k : ∀ l', l'.length = l.length → wds w l' = true → Q (.tup [.int w, .int b, .own (il l')]) n) : f_63 [stD w b l, .lst ops, .int i, .lst (il t)] n Q := by
  have so : shs ops = ops := shs_id fun d h => op_sh (ho d h)
  have sc : shs (DL.cutD ops none (some (i : Int))) = DL.cutD ops none (some (i : Int)) := shs_id fun d h => op_sh (ho d (cut_mem h))
  unfold f_63 b_63
  simp! [stD_sh, so, sc, il_shs]
  refine ops_go (N := l.length) w8 b8 hl (by decide) (by decide) _ l _ n (by show 0 < 10; decide) (by show 4 < 10; decide) rfl rfl hd (fun d h => ho d (cut_mem h)) fun oj l' hl' hd' => ?_
  have st : stD w b l' = .tup [.int w, .int b, .lst (il l')] := rfl
  have ai : atI ops (i : Int) = some op := by rw [at_nat]; exact hi
  have oo : Op w b l'.length op := by rw [hl']; exact ho op (List.mem_of_getElem? hi)
  have o1 := op_sh oo
  have ib := opB_in oo
  rcases oo with ⟨q, v, rfl, hq, hv0, hv⟩ | ⟨q, rfl, hq⟩
  · have tl : t.length = 1 := ht
    have e1 : (q : Int) + 1 = ((q + 1 : Nat) : Int) := by simp
    simp! [st, il_shs, so, il_closs, ai, o1, at3_0, at3_1, e1]
    rw [cut_to, cut_from]
    simp only [il_shs, il_app', il_len, List.length_append, List.length_take, List.length_drop]
    refine ⟨szl (by omega), szl (by omega), ?_⟩
    refine k _ ?_ (wds_app (wds_app (wds_take hd' _) htw) (wds_drop hd' _))
    simp only [List.length_append, List.length_take, List.length_drop]
    omega
  · have tl : t.length = b := ht
    have e0 : (q : Int) * (b : Int) = ((q * b : Nat) : Int) := by simp
    have e1 : ((q * b : Nat) : Int) + (b : Int) = ((q * b + b : Nat) : Int) := by simp
    simp! [st, il_shs, so, il_closs, ai, o1, at2_0, at2_1, s_ew, e0, e1]
    refine ⟨.inr ⟨by omega, by omega⟩, ?_⟩
    rw [cut_to, cut_from]
    simp only [il_shs, il_app', il_len, List.length_append, List.length_take, List.length_drop]
    refine ⟨szl (by omega), szl (by omega), ?_⟩
    refine k _ ?_ (wds_app (wds_app (wds_take hd' _) htw) (wds_drop hd' _))
    simp only [List.length_append, List.length_take, List.length_drop]
    omega
end
end M4
set_option Elab.async false
set_option linter.all false
set_option maxRecDepth 100000
set_option maxHeartbeats 4000000
/-! tearing -/
namespace M4
open PySem L2 DL
open N4 (top fDraw fMixed fSame dpD dpDs fitD fitDs)
section
variable {n : Int} {Q : Dat → Int → Prop}
theorem w_62 {w b : Nat} {l : List Int} {op : Dat} (w8 : w ≤ 8) (b8 : b ≤ 8) (hl : l.length ≤ 500) (hd : wds w l = true) (ho : Op w b l.length op) (h0 : 0 ≤ n) (hn : n + 400 < 1000000) (k : ∀ t n', n ≤ n' → n' ≤ n + 100 → smallL t → Q (.own (il t)) n') : f_62 [.strm, stD w b l, op] n Q := by
  have o1 := op_sh ho
  have oo2 := ho
  have w28 := p28 w8
  have st : stD w b l = .tup [.int w, .int b, .lst (il l)] := rfl
  unfold f_62 b_62
  rcases ho with ⟨q, v, rfl, hq, hv0, hv⟩ | ⟨q, rfl, hq⟩
  · simp! [st, il_shs, il_closs, o1, at3_0, at3_1]
    refine w_61 (l := l) w8 b8 hl hd oo2 fun l2 h2 hd2 => ?_
    unfold stD
    simp! [il_shs, at3_2, il_len]
    refine ⟨4, rfl, ⟨by decide, by decide, by omega⟩, fun way _ _ => ?_⟩
    simp!
    refine ⟨by omega, by omega, by omega, by omega, ?_⟩
    rw [show ((q : Int) + 1 - (q : Int)).toNat = 1 by omega]
    refine for_inv (fun r D m => ∃ (a : Nat) (ts : List Int) (o11 o12 o13 o14 o15 o16 : Option Dat), a ≤ 1 ∧ r = rngD ((q + a : Nat) : Int) (1 - a) ∧ n + 1 ≤ m ∧ m ≤ n + 1 + 12 * a ∧ smallL ts ∧ ts.length = a ∧ D = [some .strm, some (.tup [.int w, .int b, .lst (il l)]), some (.tup [.str "write", .int q, .int v]), some (.int w), some (.int b), some (.lst (il l)), some (.int q), some (.int 1), some (.lst (il l2)), some (.int way), some (.own (il ts)), o11, o12, o13, o14, o15, o16]) ?_ ?_ _ _ _ ⟨0, [], none, none, none, none, none, none, by omega, by rw [Nat.sub_zero]; rfl, by omega, by omega, (fun x h => by cases h), rfl, rfl⟩
    · rintro D m ⟨a, ts, o11, o12, o13, o14, o15, o16, g1, g2, g3, g4, g5, g6, rfl⟩
      simp!
      exact k _ _ (by omega) (by omega) g5
    · rintro d r nx hnx D m ⟨a, ts, o11, o12, o13, o14, o15, o16, g1, g2, g3, g4, g5, g6, rfl⟩
      have ha : a < 1 := by
        have := congrArg List.length g2
        rw [rng_len, List.length_cons] at this
        omega
      rw [show 1 - a = (1 - (a + 1)) + 1 by omega, rng_cons] at g2
      injection g2 with g2 g7
      subst g2
      have a1 := at_il (l := l) (i := q + a) (by omega)
      have a2 := at_il (l := l2) (i := q + a) (by omega)
      have b1 := wds_at hd (getD_mem (l := l) (i := q + a) (by omega))
      have b2 := wds_at hd2 (getD_mem (l := l2) (i := q + a) (by omega))
      generalize l.getD (q + a) 0 = x at a1 b1
      generalize l2.getD (q + a) 0 = y at a2 b2
      simp! [il_shs, a1, a2, il_closs]
      refine w_60 b1.1 b2.1 (by omega) (by omega) fun wd wd0 wd1 wd2 => ?_
      simp! [il_closs, il_shs]
      refine ⟨14, wh_inv (fun f D m' => ∃ (j : Nat) (vv : Int) (o15 o16 : Option Dat), j + f = 14 ∧ j ≤ 9 ∧ 0 ≤ vv ∧ vv ≤ 256 + 2 ^ j ∧ m ≤ m' ∧ m' ≤ m + j ∧ D = [some .strm, some (.tup [.int w, .int b, .lst (il l)]), some (.tup [.str "write", .int q, .int v]), some (.int w), some (.int b), some (.lst (il l)), some (.int q), some (.int 1), some (.lst (il l2)), some (.int way), some (.own (il ts)), some (.int ((q + a : Nat) : Int)), some (.tup [.int x, .int y]), some (.int (2 ^ j)), some (.int vv), o15, o16]) (fun D m' ⟨j, vv, _, _, h1, h2, _⟩ => by omega) ?_ 14 _ m ⟨0, wd, o15, o16, rfl, by decide, wd0, by show wd ≤ 256 + 1; omega, by omega, by omega, rfl⟩⟩
      rintro f nx2 hn2 D m' ⟨j, vv, o15, o16, h1, h2, h3, h4, h5, h6, rfl⟩
      simp!
      refine ⟨[x, y], rfl, by show 0 < 2; decide, fun mx hmx _ => ?_⟩
      have hmx : mx ≤ 255 := by
        rcases List.mem_cons.mp hmx with rfl | z
        · omega
        · rw [List.mem_singleton.mp z]; omega
      have pj := p2pos j
      have pj2 := p2s j
      have pj9 : (2 : Int) ^ j ≤ 512 := by
        have := p2le h2
        have e : (2 : Int) ^ 9 = 512 := by decide
        omega
      simp!
      refine iteP (fun c => ?_) fun c => ?_
      · have hj : j < 8 := by
          by_cases z : j < 8
          · exact z
          · have := p2le (show 8 ≤ j by omega)
            have e : (2 : Int) ^ 8 = 256 := by decide
            omega
        have t0 : atI [Dat.int x, Dat.int y] 0 = some (.int x) := rfl
        have t1 : atI [Dat.int x, Dat.int y] 1 = some (.int y) := rfl
        have fin : ∀ (m2 v2 : Int) (b15 b16 : Option Dat), m' ≤ m2 → m2 ≤ m' + 1 → 0 ≤ v2 → v2 ≤ 256 + 2 ^ (j + 1) → CMul 2 (2 ^ j) ∧ nx2 [some .strm, some (.tup [.int w, .int b, .lst (il l)]), some (.tup [.str "write", .int q, .int v]), some (.int w), some (.int b), some (.lst (il l)), some (.int q), some (.int 1), some (.lst (il l2)), some (.int way), some (.own (il ts)), some (.int ((q + a : Nat) : Int)), some (.tup [.int x, .int y]), some (.int (2 * 2 ^ j)), some (.int v2), b15, b16] m2 := fun m2 v2 b15 b16 q1 q2 q3 q4 => by
          refine ⟨.inl (by decide), hn2 _ _ ⟨j + 1, v2, b15, b16, by omega, by omega, q3, q4, by omega, by omega, ?_⟩⟩
          rw [pj2]
        simp! [t0, t1]
        refine ⟨⟨by omega, by omega⟩, ⟨by omega, by omega⟩, ?_⟩
        refine iteP (fun _ => ?_) fun _ => ?_
        · refine iteP (fun _ => ?_) fun _ => ?_
          · refine iteP (fun _ => ?_) fun _ => ?_
            · exact fin _ _ _ _ (by omega) (by omega) (by omega) (by omega)
            · exact fin _ _ _ _ (by omega) (by omega) (by omega) (by omega)
          · exact fin _ _ _ _ (by omega) (by omega) (by omega) (by omega)
        · refine ⟨2, rfl, ⟨by decide, by decide, by omega⟩, fun g _ _ => ?_⟩
          simp!
          refine iteP (fun _ => ?_) fun _ => ?_
          · refine iteP (fun _ => ?_) fun _ => ?_
            · exact fin _ _ _ _ (by omega) (by omega) (by omega) (by omega)
            · exact fin _ _ _ _ (by omega) (by omega) (by omega) (by omega)
          · exact fin _ _ _ _ (by omega) (by omega) (by omega) (by omega)
      · have sz : ts.length < sizeLine := Nat.lt_of_lt_of_le (show ts.length < 1000 by omega) (by decide)
        simp! [il_len, il_one', il_app']
        refine ⟨sz, hnx _ _ ⟨a + 1, ts ++ [vv], _, _, _, _, _, _, by omega, ?_, by omega, by omega, ?_, by rw [List.length_append, g6]; rfl, rfl⟩⟩
        · rw [g7]; congr 1
        · intro z hz
          rcases List.mem_append.mp hz with z1 | z1
          · exact g5 z z1
          · rw [List.mem_singleton.mp z1]
            have e : (2 : Int) ^ 28 = 268435456 := by decide
            omega
  · have e0 : (q : Int) * (b : Int) = ((q * b : Nat) : Int) := by simp
    simp! [st, il_shs, il_closs, o1, at2_0, at2_1, s_ew, e0]
    refine ⟨.inr ⟨by omega, by omega⟩, ?_⟩
    refine w_61 (l := l) w8 b8 hl hd oo2 fun l2 h2 hd2 => ?_
    unfold stD
    simp! [il_shs, at3_2, il_len]
    refine ⟨4, rfl, ⟨by decide, by decide, by omega⟩, fun way _ _ => ?_⟩
    simp!
    refine ⟨by omega, by omega, by omega, by omega, ?_⟩
    rw [show (((q * b : Nat) : Int) + (b : Int) - ((q * b : Nat) : Int)).toNat = b by omega]
    refine for_inv (fun r D m => ∃ (a : Nat) (ts : List Int) (o11 o12 o13 o14 o15 o16 : Option Dat), a ≤ b ∧ r = rngD ((q * b + a : Nat) : Int) (b - a) ∧ n + 1 ≤ m ∧ m ≤ n + 1 + 12 * a ∧ smallL ts ∧ ts.length = a ∧ D = [some .strm, some (.tup [.int w, .int b, .lst (il l)]), some (.tup [.str "erase", .int q]), some (.int w), some (.int b), some (.lst (il l)), some (.int ((q * b : Nat) : Int)), some (.int b), some (.lst (il l2)), some (.int way), some (.own (il ts)), o11, o12, o13, o14, o15, o16]) ?_ ?_ _ _ _ ⟨0, [], none, none, none, none, none, none, by omega, by rw [Nat.sub_zero]; rfl, by omega, by omega, (fun x h => by cases h), rfl, rfl⟩
    · rintro D m ⟨a, ts, o11, o12, o13, o14, o15, o16, g1, g2, g3, g4, g5, g6, rfl⟩
      simp!
      exact k _ _ (by omega) (by omega) g5
    · rintro d r nx hnx D m ⟨a, ts, o11, o12, o13, o14, o15, o16, g1, g2, g3, g4, g5, g6, rfl⟩
      have ha : a < b := by
        have := congrArg List.length g2
        rw [rng_len, List.length_cons] at this
        omega
      rw [show b - a = (b - (a + 1)) + 1 by omega, rng_cons] at g2
      injection g2 with g2 g7
      subst g2
      have a1 := at_il (l := l) (i := q * b + a) (by omega)
      have a2 := at_il (l := l2) (i := q * b + a) (by omega)
      have b1 := wds_at hd (getD_mem (l := l) (i := q * b + a) (by omega))
      have b2 := wds_at hd2 (getD_mem (l := l2) (i := q * b + a) (by omega))
      generalize l.getD (q * b + a) 0 = x at a1 b1
      generalize l2.getD (q * b + a) 0 = y at a2 b2
      simp! [il_shs, a1, a2, il_closs]
      refine w_60 b1.1 b2.1 (by omega) (by omega) fun wd wd0 wd1 wd2 => ?_
      simp! [il_closs, il_shs]
      refine ⟨14, wh_inv (fun f D m' => ∃ (j : Nat) (vv : Int) (o15 o16 : Option Dat), j + f = 14 ∧ j ≤ 9 ∧ 0 ≤ vv ∧ vv ≤ 256 + 2 ^ j ∧ m ≤ m' ∧ m' ≤ m + j ∧ D = [some .strm, some (.tup [.int w, .int b, .lst (il l)]), some (.tup [.str "erase", .int q]), some (.int w), some (.int b), some (.lst (il l)), some (.int ((q * b : Nat) : Int)), some (.int b), some (.lst (il l2)), some (.int way), some (.own (il ts)), some (.int ((q * b + a : Nat) : Int)), some (.tup [.int x, .int y]), some (.int (2 ^ j)), some (.int vv), o15, o16]) (fun D m' ⟨j, vv, _, _, h1, h2, _⟩ => by omega) ?_ 14 _ m ⟨0, wd, o15, o16, rfl, by decide, wd0, by show wd ≤ 256 + 1; omega, by omega, by omega, rfl⟩⟩
      rintro f nx2 hn2 D m' ⟨j, vv, o15, o16, h1, h2, h3, h4, h5, h6, rfl⟩
      simp!
      refine ⟨[x, y], rfl, by show 0 < 2; decide, fun mx hmx _ => ?_⟩
      have hmx : mx ≤ 255 := by
        rcases List.mem_cons.mp hmx with rfl | z
        · omega
        · rw [List.mem_singleton.mp z]; omega
      have pj := p2pos j
      have pj2 := p2s j
      have pj9 : (2 : Int) ^ j ≤ 512 := by
        have := p2le h2
        have e : (2 : Int) ^ 9 = 512 := by decide
        omega
      simp!
      refine iteP (fun c => ?_) fun c => ?_
      · have hj : j < 8 := by
          by_cases z : j < 8
          · exact z
          · have := p2le (show 8 ≤ j by omega)
            have e : (2 : Int) ^ 8 = 256 := by decide
            omega
        have t0 : atI [Dat.int x, Dat.int y] 0 = some (.int x) := rfl
        have t1 : atI [Dat.int x, Dat.int y] 1 = some (.int y) := rfl
        have fin : ∀ (m2 v2 : Int) (b15 b16 : Option Dat), m' ≤ m2 → m2 ≤ m' + 1 → 0 ≤ v2 → v2 ≤ 256 + 2 ^ (j + 1) → CMul 2 (2 ^ j) ∧ nx2 [some .strm, some (.tup [.int w, .int b, .lst (il l)]), some (.tup [.str "erase", .int q]), some (.int w), some (.int b), some (.lst (il l)), some (.int ((q * b : Nat) : Int)), some (.int b), some (.lst (il l2)), some (.int way), some (.own (il ts)), some (.int ((q * b + a : Nat) : Int)), some (.tup [.int x, .int y]), some (.int (2 * 2 ^ j)), some (.int v2), b15, b16] m2 := fun m2 v2 b15 b16 q1 q2 q3 q4 => by
          refine ⟨.inl (by decide), hn2 _ _ ⟨j + 1, v2, b15, b16, by omega, by omega, q3, q4, by omega, by omega, ?_⟩⟩
          rw [pj2]
        simp! [t0, t1]
        refine ⟨⟨by omega, by omega⟩, ⟨by omega, by omega⟩, ?_⟩
        refine iteP (fun _ => ?_) fun _ => ?_
        · refine iteP (fun _ => ?_) fun _ => ?_
          · refine iteP (fun _ => ?_) fun _ => ?_
            · exact fin _ _ _ _ (by omega) (by omega) (by omega) (by omega)
            · exact fin _ _ _ _ (by omega) (by omega) (by omega) (by omega)
          · exact fin _ _ _ _ (by omega) (by omega) (by omega) (by omega)
        · refine ⟨2, rfl, ⟨by decide, by decide, by omega⟩, fun g _ _ => ?_⟩
          simp!
          refine iteP (fun _ => ?_) fun _ => ?_
          · refine iteP (fun _ => ?_) fun _ => ?_
            · exact fin _ _ _ _ (by omega) (by omega) (by omega) (by omega)
            · exact fin _ _ _ _ (by omega) (by omega) (by omega) (by omega)
          · exact fin _ _ _ _ (by omega) (by omega) (by omega) (by omega)
      · have sz : ts.length < sizeLine := Nat.lt_of_lt_of_le (show ts.length < 1000 by omega) (by decide)
        simp! [il_len, il_one', il_app']
        refine ⟨sz, hnx _ _ ⟨a + 1, ts ++ [vv], _, _, _, _, _, _, by omega, ?_, by omega, by omega, ?_, by rw [List.length_append, g6]; rfl, rfl⟩⟩
        · rw [g7]; congr 1
        · intro z hz
          rcases List.mem_append.mp hz with z1 | z1
          · exact g5 z z1
          · rw [List.mem_singleton.mp z1]
            have e : (2 : Int) ^ 28 = 268435456 := by decide
            omega
end
end M4
set_option Elab.async false
set_option linter.all false
set_option maxRecDepth 100000
set_option maxHeartbeats 4000000
/-! drawn images -/
namespace M4
open PySem L2 DL
open N4 (top fDraw fMixed fSame dpD dpDs fitD fitDs)
section
variable {n : Int} {Q : Dat → Int → Prop}
theorem sm_in {m : Int} (hm : 0 < m) : ∀ (l : List Int) (p : Int × Int), 0 ≤ p.1 → p.1 < m → 0 ≤ p.2 → p.2 < m → (0 ≤ (sm m p l).1 ∧ (sm m p l).1 < m) ∧ 0 ≤ (sm m p l).2 ∧ (sm m p l).2 < m
  | [], p, h1, h2, h3, h4 => ⟨⟨h1, h2⟩, h3, h4⟩
  | x :: l, p, h1, h2, h3, h4 => by
    have ne : m ≠ 0 := by omega
    exact sm_in hm l _ (Int.emod_nonneg _ ne) (Int.emod_lt_of_pos _ hm) (Int.emod_nonneg _ ne) (Int.emod_lt_of_pos _ hm)
theorem on_pos {w : Nat} (h : 4 ≤ w) : 15 ≤ on w := by
  have := p2le h
  have e : (2 : Int) ^ 4 = 16 := by decide
  have e2 : on w = 2 ^ w - 1 := rfl
  omega
theorem sums_in {w : Nat} (h : 4 ≤ w) (l : List Int) : (0 ≤ (sums w l).1 ∧ (sums w l).1 < 2 ^ w) ∧ 0 ≤ (sums w l).2 ∧ (sums w l).2 < 2 ^ w := by
  have := on_pos h
  have e2 : on w = 2 ^ w - 1 := rfl
  have := sm_in (m := on w) (by omega) l (0, 0) (Int.le_refl _) (by show 0 < on w; omega) (Int.le_refl _) (by show 0 < on w; omega)
  exact ⟨⟨this.1.1, Int.lt_trans this.1.2 (by omega)⟩, this.2.1, Int.lt_trans this.2.2 (by omega)⟩
/-- an image as it is drawn -/
def mkI (w : Nat) (v : Int) (body : List Int) : List Int := v :: (body.length : Int) :: 0 :: (sums w (v :: (body.length : Int) :: 0 :: body)).1 :: (sums w (v :: (body.length : Int) :: 0 :: body)).2 :: body
theorem mkI_good {w : Nat} {v : Int} {body : List Int} (h4 : 4 ≤ w) (hv : v < on w) (hb : body.length ≤ 6) : good w (mkI w v body) = true := by
  have := on_pos h4
  refine good_iff.mpr ⟨by omega, rfl, by omega, by omega, (fun z => by have := z.2; omega), .inr ?_, rfl, rfl⟩
  show body.getLastD 0 % 2 ^ 0 = 0
  omega
theorem mkI_wd {w : Nat} {v : Int} {body : List Int} (h4 : 4 ≤ w) (hv0 : 0 ≤ v) (hv : v < on w) (hb : body.length ≤ 6) (hd : wds w body = true) : wds w (mkI w v body) = true := by
  have h := on_pos h4
  have e2 : on w = 2 ^ w - 1 := rfl
  have s := sums_in h4 (v :: (body.length : Int) :: 0 :: body)
  unfold mkI
  unfold wds at *
  simp only [List.all_cons, Bool.and_eq_true, decide_eq_true_eq]
  exact ⟨⟨hv0, by omega⟩, ⟨by omega, by omega⟩, ⟨by omega, by omega⟩, s.1, s.2, hd⟩
theorem mkI_len {w : Nat} {v : Int} {body : List Int} : (mkI w v body).length = body.length + 5 := rfl
theorem w_65 {w : Nat} {v : Int} (h4 : 4 ≤ w) (h8 : w ≤ 8) (h0 : 0 ≤ n) (hn : n + 100 < 1000000) (k : ∀ body n', n ≤ n' → n' ≤ n + 10 → body.length ≤ 6 → wds w body = true → Q (.own (il (mkI w v body))) n') : f_65 [.strm, .int w, .int v] n Q := by
  have h := on_pos h4
  have e2 : on w = 2 ^ w - 1 := rfl
  have p8 := p28 h8
  unfold f_65 b_65
  simp!
  refine ⟨7, rfl, ⟨by decide, by decide, by omega⟩, fun g g0 g7 => ?_⟩
  simp!
  refine ⟨by omega, by omega, by rw [rng_len]; exact szl (by omega), ?_⟩
  refine lc_inv (fun q acc m => ∃ (body : List Int), acc = il body ∧ q.length + body.length = g.toNat ∧ wds w body = true ∧ n + 1 ≤ m ∧ m = n + 1 + body.length) ?_ ?_ _ _ _ ⟨[], rfl, by rw [rng_len]; rfl, rfl, by omega, by show n + 1 = n + 1 + 0; omega⟩
  · rintro acc m ⟨body, rfl, g1, g2, g3, g4⟩
    have lb : body.length ≤ 6 := by
      have : body.length = g.toNat := by simpa using g1
      omega
    simp! [il_closs, il_shs, il_len, il_one', il_cons', il_app', List.length_append]
    refine ⟨szl (by omega), w_55 w _ (by omega) (by omega) ?_⟩
    simp! [il_shs, il_one', il_cons', il_app', il_len]
    exact ⟨szl (by omega), k body m (by omega) (by omega) lb g2⟩
  · rintro d q R hR acc m ⟨body, rfl, g1, g2, g3, g4⟩
    rw [List.length_cons] at g1
    simp!
    refine w_58 w (by omega) ?_
    simp!
    refine ⟨on w + 1, rfl, ⟨by omega, by omega, by omega⟩, fun x x0 x1 => ?_⟩
    refine hR _ _ ⟨body ++ [x], ?_, by rw [List.length_append]; show q.length + (body.length + 1) = _; omega, wds_app g2 ?_, by omega, by rw [List.length_append]; show m + 1 = n + 1 + ((body.length + 1 : Nat) : Int); omega⟩
    · rw [il_app]; rfl
    · show (decide (0 ≤ x) && decide (x < 2 ^ w) && true) = true
      simp only [Bool.and_true, Bool.and_eq_true, decide_eq_true_eq]
      omega
end
end M4
set_option Elab.async false
set_option linter.all false
set_option maxRecDepth 100000
set_option maxHeartbeats 4000000
/-! what may be compared -/
namespace M4
open PySem L2 DL
open N4 (top fDraw fMixed fSame dpD dpDs fitD fitDs)
section
/-- to be compared, of depth k at most -/
def cmpK (k : Nat) (d : Dat) : Prop := d.pl = true ∧ d.toP.canLay0 = true ∧ d.toP.depth ≤ k
theorem cmp_int {k : Nat} (i : Int) : cmpK k (.int i) := ⟨rfl, rfl, Nat.zero_le _⟩
theorem cmp_all {k : Nat} : ∀ l : List Dat, (∀ d ∈ l, cmpK k d) → pls l = true ∧ PyData.canLayAll0 (toPs l) = true ∧ PyData.depthAll (toPs l) ≤ k
  | [], _ => ⟨rfl, rfl, Nat.zero_le _⟩
  | d :: l, h => by
    obtain ⟨a, b, c⟩ := h d (List.mem_cons_self ..)
    obtain ⟨a', b', c'⟩ := cmp_all l fun x hx => h x (List.mem_cons_of_mem _ hx)
    unfold pls toPs PyData.canLayAll0 PyData.depthAll
    rw [a, a', b, b']
    exact ⟨rfl, rfl, Nat.max_le.mpr ⟨c, c'⟩⟩
theorem cmp_lst {k : Nat} {l : List Dat} (h : ∀ d ∈ l, cmpK k d) : cmpK (k + 1) (.lst l) := by
  obtain ⟨a, b, c⟩ := cmp_all l h
  exact ⟨a, b, Nat.succ_le_succ c⟩
theorem cmp_tup {k : Nat} {l : List Dat} (h : ∀ d ∈ l, cmpK k d) : cmpK (k + 1) (.tup l) := by
  obtain ⟨a, b, c⟩ := cmp_all l h
  exact ⟨a, b, Nat.succ_le_succ c⟩
theorem cmp_ok {k : Nat} {d : Dat} (hk : k ≤ 64) (h : cmpK k d) : d.eqOk := by
  refine ⟨h.1, ?_⟩
  show (d.toP.canLay0 && decide (d.toP.depth ≤ 64)) = true
  rw [h.2.1, decide_eq_true (Nat.le_trans h.2.2 hk)]
  rfl
theorem cmp_il (l : List Int) : cmpK 1 (.lst (il l)) := cmp_lst (k := 0) fun d hd => by
  obtain ⟨x, _, rfl⟩ := List.mem_map.mp hd
  exact cmp_int x
theorem cmp_write {k : Nat} : cmpK k (.str "write") := ⟨rfl, by decide +kernel, Nat.zero_le _⟩
theorem cmp_erase {k : Nat} : cmpK k (.str "erase") := ⟨rfl, by decide +kernel, Nat.zero_le _⟩
theorem cmp_refused {k : Nat} : cmpK k (.str "refused") := ⟨rfl, by decide +kernel, Nat.zero_le _⟩
theorem cmp_op {w b N : Nat} {d : Dat} (h : Op w b N d) : cmpK 1 d := by
  rcases h with ⟨i, v, rfl, _⟩ | ⟨k, rfl, _⟩
  · refine cmp_tup (k := 0) fun d hd => ?_
    rcases List.mem_cons.mp hd with rfl | hd
    · exact cmp_write
    rcases List.mem_cons.mp hd with rfl | hd
    · exact cmp_int _
    rw [List.mem_singleton.mp hd]
    exact cmp_int _
  · refine cmp_tup (k := 0) fun d hd => ?_
    rcases List.mem_cons.mp hd with rfl | hd
    · exact cmp_erase
    rw [List.mem_singleton.mp hd]
    exact cmp_int _
/-- a list against the empty one -/
theorem ne_emp {k : Nat} {l : List Dat} {R : Dat → Prop} (hk : k ≤ 64) (h : cmpK k (.lst l)) (q : R (.bl (!l.isEmpty))) : dNe (.lst l) (.lst []) R := by
  refine ⟨⟨cmp_ok hk h, cmp_ok (k := 1) (by decide) (cmp_lst (k := 0) fun d hd => by cases hd)⟩, ?_⟩
  have e : (Dat.lst l).eqb (.lst []) = l.isEmpty := by cases l <;> rfl
  rw [e]
  exact q
theorem eq_ls {k : Nat} {l : List Dat} {R : Dat → Prop} (hk : k ≤ 64) (h : cmpK k (.lst l)) (q : R (.bl false)) : dEq (.lst l) (.str "refused") R := ⟨⟨cmp_ok hk h, cmp_ok (k := 0) (by decide) cmp_refused⟩, q⟩
theorem ne_ls {k : Nat} {l : List Dat} {R : Dat → Prop} (hk : k ≤ 64) (h : cmpK k (.lst l)) (q : R (.bl true)) : dNe (.lst l) (.str "refused") R := ⟨⟨cmp_ok hk h, cmp_ok (k := 0) (by decide) cmp_refused⟩, q⟩
/-- lists of numbers -/
theorem ne_il {l m : List Int} {R : Dat → Prop} (q : ∀ b, R (.bl b)) : dNe (.lst (il l)) (.lst (il m)) R := ⟨⟨cmp_ok (k := 1) (by decide) (cmp_il l), cmp_ok (k := 1) (by decide) (cmp_il m)⟩, q _⟩
end
end M4
set_option Elab.async false
set_option linter.all false
set_option maxRecDepth 100000
set_option maxHeartbeats 4000000
/-! what ops an event asks -/
namespace M4
open PySem L2 DL
open N4 (top fDraw fMixed fSame dpD dpDs fitD fitDs)
section
variable {n : Int} {Q : Dat → Int → Prop}
/-- what is told -/
def Told (c : Nat) (d : Dat) : Prop := d = .tup [.str "none"] ∨ (∃ (j : Nat) (v : Int), d = .tup [.str "run", .int j, .int v] ∧ j < c) ∨ (∃ j : Nat, d = .tup [.str "good", .int j]) ∨ (∃ j : Nat, d = .tup [.str "back", .int j]) ∨ ∃ (j : Nat) (v : Int), d = .tup [.str "put", .int j, .int v]
/-- what is given -/
def Gv (w : Nat) (d : Dat) : Prop := ∃ im : List Int, wds w im = true ∧ 1 ≤ im.length ∧ im.length ≤ 11 ∧ (d = .tup [.str "image", .lst (il im)] ∨ ∃ x1 x2 x3 x4 x5 : Int, d = .tup [.str "patch", .lst (il (x1 :: x2 :: x3 :: x4 :: x5 :: im))])
/-- an event that ends with e -/
def Ev (w : Nat) (e d : Dat) : Prop := d = .tup [.str "start", e] ∨ d = .tup [.str "confirm", e] ∨ d = .tup [.str "back", e] ∨ ∃ g, d = .tup [.str "update", g, e] ∧ Gv w g
theorem Gv.sh {w : Nat} {d : Dat} (h : Gv w d) : d.sh = d := by
  obtain ⟨im, _, _, _, rfl | ⟨x1, x2, x3, x4, x5, rfl⟩⟩ := h <;> rfl
theorem Ev.sh {w : Nat} {e d : Dat} (h : Ev w e d) (he : e.sh = e) : d.sh = d := by
  rcases h with rfl | rfl | rfl | ⟨g, rfl, hg⟩ <;> simp only [Dat.sh, shs, he]
  rw [hg.sh]
theorem t_1 : (Str.ofString "confirm" = Str.ofString "start") = False := eq_false (by decide)
theorem t_2 : (Str.ofString "back" = Str.ofString "start") = False := eq_false (by decide)
theorem t_3 : (Str.ofString "update" = Str.ofString "start") = False := eq_false (by decide)
theorem t_4 : (Str.ofString "back" = Str.ofString "confirm") = False := eq_false (by decide)
theorem t_5 : (Str.ofString "update" = Str.ofString "confirm") = False := eq_false (by decide)
theorem t_6 : (Str.ofString "update" = Str.ofString "back") = False := eq_false (by decide)
theorem t_7 : (Str.ofString "patch" = Str.ofString "image") = False := eq_false (by decide)
theorem t_8 : (Str.ofString "image" = Str.ofString "patch") = False := eq_false (by decide)
/-- what g_ops gives -/
def OpsR (w b c N : Nat) (d : Dat) : Prop := (∃ x, d = .tup [.str "refused", .str x]) ∨ ∃ ops told, d = .tup [.lst ops, told] ∧ (∀ o ∈ ops, Op w b N o) ∧ ops.length ≤ 200 ∧ Told c told
def rnD : Option Nat → Dat
  | none => .non
  | some j => .int j
theorem rnD_sh (o : Option Nat) : (rnD o).sh = rnD o := by cases o <;> rfl
theorem rnD_nn (o : Option Nat) : (rnD o).isNon = o.isNone := by cases o <;> rfl
theorem in_lt {c s j t : Nat} (h : j < c) (ht : t < s) : j * s + t < c * s := by
  have : j * s + s ≤ c * s := by rw [← Nat.succ_mul]; exact Nat.mul_le_mul_right s h
  omega
theorem op_clos {w b N : Nat} {d : Dat} (h : Op w b N d) : d.clos = true := by
  rcases h with ⟨i, v, rfl, _⟩ | ⟨k, rfl, _⟩ <;> rfl
theorem ops_clos {w b N : Nat} {l : List Dat} (h : ∀ d ∈ l, Op w b N d) : closs l = true := by
  rw [closs_all, List.all_eq_true]
  exact fun d hd => op_clos (h d hd)
/-- the last part of g_ops -/
def t_71 : DS := (dSeq (dAsg [false, false, false, true, false, false, false, false, false, false, false, true, false, false, false, false, false, false, false] (dTup (dCons (dOp dTimes (dVar 11) (dVar 3)) (dCons (dOp (dI0 fun i j => .int (i - j)) (dOp dPlus (dOp dTimes (dVar 11) (dVar 3)) (dVar 3)) (dC (.int 1))) dNil))) (dgSeq 2 (dgCons (dgName 13) (dgCons (dgName 14) dgNil)))) (dSeq (dSet 16 [false, false, false, true, true, false, false, false, false, false, false, false, false, true, true, true, false, false, false] (dOp dPlus (dLst (dCons (dTup (dCons (dC (.str "write")) (dCons (dVar 14) (dCons (dC (.int 0)) dNil)))) (dCons (dTup (dCons (dC (.str "write")) (dCons (dVar 13) (dCons (dC (.int 0)) dNil)))) dNil))) (dLc (dRng1 (dCons (dOp (dI CDiv fun i j => .int (i / j)) (dVar 3) (dVar 4)) dNil)) (dgName 15) dYes (dTup (dCons (dC (.str "erase")) (dCons (dOp dPlus (dOp (dI CDiv fun i j => .int (i / j)) (dVar 13) (dVar 4)) (dVar 15)) dNil))) [15]))) (dSeq (dSet 16 [false, false, false, false, false, false, false, false, false, false, true, false, true, true, true, false, true, true, true] (dOp dPlus (dOp dPlus (dVar 16) (dLc (dEnum (dCons (dVar 10) dNil)) (dgTup 2 (dgCons (dgName 17) (dgCons (dgName 18) dgNil))) dYes (dTup (dCons (dC (.str "write")) (dCons (dOp dPlus (dOp dPlus (dVar 13) (dC (.int 3))) (dVar 17)) (dCons (dVar 18) dNil)))) [17, 18])) (dLst (dCons (dTup (dCons (dC (.str "write")) (dCons (dVar 14) (dCons (dVar 12) dNil)))) (dCons (dTup (dCons (dC (.str "write")) (dCons (dVar 13) (dCons (dVar 12) dNil)))) dNil))))) (dRet [false, false, false, false, false, false, false, false, false, false, true, true, false, false, false, false, true, false, false] (dTup (dCons (dVar 16) (dCons (dTup (dCons (dC (.str "put")) (dCons (dVar 11) (dCons (dOp dIx (dVar 10) (dC (.int 0))) dNil)))) dNil)))))))
theorem t71_eq : (dSeq (dAsg [false, false, false, true, false, false, false, false, false, false, false, true, false, false, false, false, false, false, false] (dTup (dCons (dOp dTimes (dVar 11) (dVar 3)) (dCons (dOp (dI0 fun i j => .int (i - j)) (dOp dPlus (dOp dTimes (dVar 11) (dVar 3)) (dVar 3)) (dC (.int 1))) dNil))) (dgSeq 2 (dgCons (dgName 13) (dgCons (dgName 14) dgNil)))) (dSeq (dSet 16 [false, false, false, true, true, false, false, false, false, false, false, false, false, true, true, true, false, false, false] (dOp dPlus (dLst (dCons (dTup (dCons (dC (.str "write")) (dCons (dVar 14) (dCons (dC (.int 0)) dNil)))) (dCons (dTup (dCons (dC (.str "write")) (dCons (dVar 13) (dCons (dC (.int 0)) dNil)))) dNil))) (dLc (dRng1 (dCons (dOp (dI CDiv fun i j => .int (i / j)) (dVar 3) (dVar 4)) dNil)) (dgName 15) dYes (dTup (dCons (dC (.str "erase")) (dCons (dOp dPlus (dOp (dI CDiv fun i j => .int (i / j)) (dVar 13) (dVar 4)) (dVar 15)) dNil))) [15]))) (dSeq (dSet 16 [false, false, false, false, false, false, false, false, false, false, true, false, true, true, true, false, true, true, true] (dOp dPlus (dOp dPlus (dVar 16) (dLc (dEnum (dCons (dVar 10) dNil)) (dgTup 2 (dgCons (dgName 17) (dgCons (dgName 18) dgNil))) dYes (dTup (dCons (dC (.str "write")) (dCons (dOp dPlus (dOp dPlus (dVar 13) (dC (.int 3))) (dVar 17)) (dCons (dVar 18) dNil)))) [17, 18])) (dLst (dCons (dTup (dCons (dC (.str "write")) (dCons (dVar 14) (dCons (dVar 12) dNil)))) (dCons (dTup (dCons (dC (.str "write")) (dCons (dVar 13) (dCons (dVar 12) dNil)))) dNil))))) (dRet [false, false, false, false, false, false, false, false, false, false, true, true, false, false, false, false, true, false, false] (dTup (dCons (dVar 16) (dCons (dTup (dCons (dC (.str "put")) (dCons (dVar 11) (dCons (dOp dIx (dVar 10) (dC (.int 0))) dNil)))) dNil))))))) = t_71 := rfl
theorem w_t71 {c w b s j p : Nat} {l im : List Int} {ev x5 x10 : Dat} (r : Rg c w b s l) (hj : j < c) (hp : p < c) (h10 : x10 = .lst (il im) ∨ x10 = .own (il im)) (im1 : wds w im = true) (im2 : 1 ≤ im.length) (im3 : im.length ≤ 11) (ims : im.length + 4 ≤ s) (k : ∀ d, OpsR w b c (c * s) d.sh → Q d n) :
    t_71 (endD Q) [some (rg c w b l), some (.int j), some ev, some (.int s), some (.int b), some x5, none, none, none, none, some x10, some (.int p), some (.int (mk w)), none, none, none, none, none, none] n := by
  have s9 := r.s9
  have b3 := r.b3
  have c5 := r.c5
  have e1 : (p : Int) * (s : Int) = ((p * s : Nat) : Int) := by simp
  have e2 : ((p * s : Nat) : Int) + (s : Int) - 1 = ((p * s + (s - 1) : Nat) : Int) := by omega
  have e3 : (s : Int) / (b : Int) = ((s / b : Nat) : Int) := by simp
  have e4 : ((p * s : Nat) : Int) / (b : Int) = ((p * s / b : Nat) : Int) := by simp
  have sb : s / b ≤ 100 := Nat.le_trans (Nat.div_le_self _ _) s9
  have x10s : x10.sh = .lst (il im) := by rcases h10 with rfl | rfl; rfl; show Dat.lst (shs (il im)) = _; rw [il_shs]
  unfold t_71
  simp! [e1, e2, e3, e4, x10s]
  refine ⟨.inl ⟨by omega, by omega⟩, ?_⟩
  have hb0 : 0 < b := by omega
  obtain ⟨m, hm⟩ : ∃ m, s = b * m := by
    obtain ⟨m, hm⟩ := Nat.dvd_of_mod_eq_zero r.dv
    exact ⟨m, hm⟩
  have d1 : s / b = m := by rw [hm, Nat.mul_div_cancel_left _ hb0]
  have d2 : p * s / b = p * m := by rw [hm, Nat.mul_left_comm, Nat.mul_div_cancel_left _ hb0]
  have ps : p * s + s ≤ c * s := by rw [← Nat.succ_mul]; exact Nat.mul_le_mul_right s hp
  have z0 : (0 : Int) < 2 ^ w := by have := p2pos w; omega
  have mkw : 0 ≤ mk w ∧ mk w < 2 ^ w := by
    have w4 := r.w4
    have w8 := r.w8
    have cs : w = 4 ∨ w = 5 ∨ w = 6 ∨ w = 7 ∨ w = 8 := by omega
    rcases cs with rfl | rfl | rfl | rfl | rfl <;> decide
  have wr : ∀ (t : Nat) (v : Int), t < s → 0 ≤ v → v < 2 ^ w → Op w b (c * s) (.tup [.str "write", .int ((p * s + t : Nat) : Int), .int v]) := fun t v h1 h2 h3 => .inl ⟨_, _, rfl, by omega, h2, h3⟩
  have s1 := r.s2
  rw [d1, Int.toNat_natCast, rng_len]
  refine ⟨.inl ⟨by omega, by omega⟩, ⟨by omega, by omega⟩, by omega, by omega, szl (by omega), ?_⟩
  refine lc_inv (fun q acc m' => ∃ i : Nat, i ≤ m ∧ q = rngD i (m - i) ∧ acc.length = i ∧ (∀ o ∈ acc, Op w b (c * s) o) ∧ m' = n) ?_ ?_ _ _ _ ⟨0, by omega, by rw [Nat.sub_zero]; rfl, rfl, (fun o h => by cases h), rfl⟩
  · rintro acc m' ⟨i, q1, q2, q3, q4, rfl⟩
    have := rng_end q2 q1
    subst this
    have sa : shs acc = acc := shs_id fun d h => op_sh (q4 d h)
    have sl : acc.length ≤ 100 := by omega
    rw [sa, sa, enumD_len, il_len]
    refine ⟨szl (by omega), szl (by omega), ?_⟩
    refine lc_inv (fun q acc2 m2 => ∃ t : Nat, t ≤ im.length ∧ q = (enumD (il im)).drop t ∧ acc2.length = t ∧ (∀ o ∈ acc2, Op w b (c * s) o) ∧ m2 = m') ?_ ?_ _ _ _ ⟨0, by omega, rfl, rfl, (fun o h => by cases h), rfl⟩
    · rintro acc2 m2 ⟨t, t1, t2, t3, t4, rfl⟩
      have sa2 : shs acc2 = acc2 := shs_id fun d h => op_sh (t4 d h)
      have sa3 : shs (acc ++ acc2) = acc ++ acc2 := shs_id fun d h => by
        rcases List.mem_append.mp h with z | z
        · exact op_sh (q4 d z)
        · exact op_sh (t4 d z)
      rw [sa2, sa3]
      have hA : ∀ o ∈ (acc ++ acc2) ++ [Dat.tup [.str "write", .int ((p * s + (s - 1) : Nat) : Int), .int (mk w)], Dat.tup [.str "write", .int ((p * s : Nat) : Int), .int (mk w)]], Op w b (c * s) o := fun o h => by
        rcases List.mem_append.mp h with z | z
        · rcases List.mem_append.mp z with y | y
          · exact q4 o y
          · exact t4 o y
        · rcases List.mem_cons.mp z with rfl | z
          · exact wr (s - 1) _ (by omega) mkw.1 mkw.2
          · rw [List.mem_singleton.mp z]
            exact wr 0 _ (by omega) mkw.1 mkw.2
      have hc := ops_clos hA
      refine ⟨szl (by omega), szl (by rw [List.length_append]; omega), ?_⟩
      have i0 := at_il (l := im) (i := 0) (by omega)
      simp only [x_c0] at i0
      simp! [hc, x10s, i0]
      refine k _ ?_
      have told : Told c (.tup [.str "put", .int p, .int (im.getD 0 0)]) := .inr (.inr (.inr (.inr ⟨p, _, rfl⟩)))
      have hB : ∀ o ∈ (Dat.tup [.str "write", .int ((p * s + (s - 1) : Nat) : Int), .int 0] :: Dat.tup [.str "write", .int ((p * s : Nat) : Int), .int 0] :: ((acc ++ acc2) ++ [Dat.tup [.str "write", .int ((p * s + (s - 1) : Nat) : Int), .int (mk w)], Dat.tup [.str "write", .int ((p * s : Nat) : Int), .int (mk w)]])), Op w b (c * s) o := fun o h => by
        rcases List.mem_cons.mp h with rfl | h
        · exact wr (s - 1) _ (by omega) (Int.le_refl _) z0
        rcases List.mem_cons.mp h with rfl | h
        · exact wr 0 _ (by omega) (Int.le_refl _) z0
        exact hA o h
      have sB := shs_id fun d h => op_sh (hB d h)
      refine .inr ⟨_, _, ?_, hB, ?_, told⟩
      · have sA := shs_id fun d h => op_sh (hA d h)
        simp only [Dat.sh, shs]
        rw [sA]
      · simp only [List.length_cons, List.length_append, List.length_nil]
        omega
    · rintro d q R hR acc2 m2 ⟨t, t1, t2, t3, t4, rfl⟩
      have ht : t < im.length := by
        have := congrArg List.length t2
        rw [List.length_drop, enumD_len, il_len, List.length_cons] at this
        omega
      have hq : d = .tup [.int t, .int (im.getD t 0)] ∧ q = (enumD (il im)).drop (t + 1) := by
        have e := List.drop_eq_getElem_cons (l := enumD (il im)) (i := t) (by rw [enumD_len, il_len]; exact ht)
        rw [e] at t2
        injection t2 with t2 t5
        refine ⟨?_, t5⟩
        rw [t2]
        unfold enumD
        rw [List.getElem_mapIdx]
        unfold il
        rw [List.getElem_map, List.getD_eq_getElem?_getD, List.getElem?_eq_getElem ht]
        rfl
      obtain ⟨rfl, hq⟩ := hq
      have iw := wds_at im1 (getD_mem ht)
      have e5 : ((p * s : Nat) : Int) + 3 + (t : Int) = ((p * s + (3 + t) : Nat) : Int) := by omega
      simp! [e5]
      refine hR _ _ ⟨t + 1, by omega, hq, by rw [List.length_append, t3]; rfl, fun o h => ?_, rfl⟩
      rcases List.mem_append.mp h with z | z
      · exact t4 o z
      · rw [List.mem_singleton.mp z]
        exact wr (3 + t) _ (by omega) iw.1 iw.2
  · rintro d q R hR acc m' ⟨i, q1, q2, q3, q4, rfl⟩
    obtain ⟨hi, rfl, g4⟩ := rng_step q2
    have e5 : ((p * m : Nat) : Int) + (i : Int) = ((p * m + i : Nat) : Int) := by simp
    simp! [e4, d2, e5]
    refine ⟨⟨by omega, by omega⟩, hR _ _ ⟨i + 1, by omega, g4, by rw [List.length_append, q3]; rfl, fun o h => ?_, rfl⟩⟩
    rcases List.mem_append.mp h with z | z
    · exact q4 o z
    · rw [List.mem_singleton.mp z]
      refine .inr ⟨_, rfl, ?_⟩
      have : (p * m + i) * b + b ≤ p * s + s := by
        rw [hm]
        have h1 : (p * m + i) * b = p * (b * m) + i * b := by rw [Nat.add_mul, Nat.mul_assoc, Nat.mul_comm m b]
        have h2 : i * b + b ≤ b * m := by rw [← Nat.succ_mul, Nat.mul_comm b m]; exact Nat.mul_le_mul_right b hi
        omega
      omega
end
end M4
set_option Elab.async false
set_option linter.all false
set_option maxRecDepth 100000
set_option maxHeartbeats 4000000
/-! what ops an event asks -/
namespace M4
open PySem L2 DL
open N4 (top fDraw fMixed fSame dpD dpDs fitD fitDs)
section
variable {n : Int} {Q : Dat → Int → Prop}
theorem w_71 {c w b s : Nat} {l : List Int} {run : Option Nat} {e ev : Dat} (r : Rg c w b s l) (hr : ∀ j, run = some j → j < c) (he : e.sh = e) (hev : Ev w e ev) (k : ∀ d, OpsR w b c (c * s) d.sh → Q d n) : f_71 [rg c w b l, rnD run, ev] n Q := by
  have h2 := r.c2
  have h5 := r.c5
  have evs := hev.sh he
  have w8 := r.w8
  have g1 : ∀ R : Dat → Prop, R (.tup [.int w, .int b, .lst (il l)]) → dIx (rg c w b l) (.int 1) R := fun R h => ⟨_, at2_1, h⟩
  have g0 : ∀ R : Dat → Prop, R (.int c) → dIx (rg c w b l) (.int 0) R := fun R h => ⟨_, at2_0, h⟩
  unfold f_71 b_71
  rw [t71_eq]
  simp! [rg_sh]
  refine g1 _ ?_
  simp! [at3_2, il_shs, il_len]
  refine g0 _ ?_
  simp! [r.size]
  refine ⟨⟨by omega, by omega⟩, ?_⟩
  simp! [rg_sh]
  refine g1 _ ?_
  simp! [at3_1]
  refine w_70 r ?_
  have s6 : 6 ≤ s := by have := r.s2; have := r.b3; omega
  have z0 : (0 : Int) < 2 ^ w := by have := p2pos w; omega
  rcases hev with rfl | rfl | rfl | ⟨g, rfl, hg⟩
  · simp! [slD_sh, slD_clos, slD_nn, he, at2_0]
    refine iteP (fun _ => ?_) fun h => ?_
    · exact k _ (.inr ⟨[], _, rfl, (fun o h => by cases h), by decide, .inl rfl⟩)
    cases e2 : bst w s c l with
    | none => rw [e2] at h; exact (h rfl).elim
    | some p =>
      obtain ⟨j, u⟩ := p
      obtain ⟨hj, hvj⟩ := bs_ver e2
      obtain ⟨x, hx, ex⟩ := verR_img hvj
      have hx0 := img_at0 hx (r.sl_wd j)
      have a0 := at_il (l := x) (i := 0) hx0.1
      have hl := r.sl_len hj
      have a1 := at_il (l := sl s j l) (i := 1) (by omega)
      have a2 := at_il (l := sl s j l) (i := 2) (by omega)
      simp only [x_c0, x_c1, x_c2, ex] at a0 a1 a2
      have img67 : ∀ R : Dat → Int → Prop, R (.lst (il x)) n → f_67 [rg c w b l, .int j] n R := fun R h => w_67 r hj (by rw [hx]; exact h)
      have told : Told c (.tup [.str "run", .int j, .int u]) := .inr (.inl ⟨j, u, rfl, hj⟩)
      simp! [slD, rg_sh]
      refine w_66 r hj ?_
      simp! [il_shs, a1, a2, rg_sh]
      refine iteP (fun _ => ?_) fun _ => ?_
      · refine img67 _ ?_
        simp! [a0]
        exact k _ (.inr ⟨[], _, rfl, (fun o h => by cases h), by decide, told⟩)
      refine iteP (fun _ => ?_) fun _ => ?_
      · refine img67 _ ?_
        simp! [a0]
        exact k _ (.inr ⟨[], _, rfl, (fun o h => by cases h), by decide, told⟩)
      · have e1 : (j : Int) * (s : Int) + 1 = ((j * s + 1 : Nat) : Int) := by simp
        have s9 := r.s9
        refine ⟨.inl ⟨by omega, by omega⟩, img67 _ ?_⟩
        simp! [a0, e1]
        refine k _ (.inr ⟨[.tup [.str "write", .int ((j * s + 1 : Nat) : Int), .int 0]], _, rfl, (fun o h => ?_), (by show 1 ≤ 200; decide), told⟩)
        rw [List.mem_singleton.mp h]
        exact .inl ⟨_, _, rfl, in_lt hj (by omega), Int.le_refl _, z0⟩
  · simp! [slD_sh, slD_clos, slD_nn, he, at2_0, t_1, rnD_sh, rnD_nn, rg_sh]
    refine iteP (fun _ => k _ (.inl ⟨_, rfl⟩)) fun hn => ?_
    cases run with
    | none => exact (hn rfl).elim
    | some j =>
    have hj := hr j rfl
    have hl := r.sl_len hj
    have b2 := at_il (l := sl s j l) (i := 2) (by omega)
    simp only [x_c2] at b2
    simp! [rnD]
    refine w_67 r hj ?_
    rw [optD_nn]
    refine iteP (fun _ => k _ (.inl ⟨_, rfl⟩)) fun hi => ?_
    cases hx : img w (sl s j l) with
    | none => rw [hx] at hi; exact (hi rfl).elim
    | some x =>
    have hx0 := img_at0 hx (r.sl_wd j)
    have a0 := at_il (l := x) (i := 0) hx0.1
    simp only [x_c0] at a0
    have img67 : ∀ R : Dat → Int → Prop, R (.lst (il x)) n → f_67 [rg c w b l, .int j] n R := fun R h => w_67 r hj (by rw [hx]; exact h)
    have s9 := r.s9
    have ejs : (j : Int) * (s : Int) = ((j * s : Nat) : Int) := by simp
    have one : ∀ (t : Nat), t < s → ∀ o ∈ [Dat.tup [.str "write", .int ((j * s + t : Nat) : Int), .int 0]], Op w b (c * s) o := fun t ht o h => by
      rw [List.mem_singleton.mp h]
      exact .inl ⟨_, _, rfl, in_lt hj ht, Int.le_refl _, z0⟩
    have e2 : ((j * s : Nat) : Int) + 2 = ((j * s + 2 : Nat) : Int) := by simp
    simp! [ejs, e2]
    exact ⟨.inl ⟨by omega, by omega⟩, k _ (.inr ⟨_, _, rfl, one 2 (by omega), (by show 1 ≤ 200; decide), .inr (.inr (.inl ⟨j, rfl⟩))⟩)⟩
  · simp! [slD_sh, slD_clos, slD_nn, he, at2_0, t_2, t_4, rnD_sh, rnD_nn, rg_sh]
    refine iteP (fun _ => k _ (.inl ⟨_, rfl⟩)) fun hn => ?_
    cases run with
    | none => exact (hn rfl).elim
    | some j =>
    have hj := hr j rfl
    have hl := r.sl_len hj
    have b2 := at_il (l := sl s j l) (i := 2) (by omega)
    simp only [x_c2] at b2
    simp! [rnD]
    refine w_67 r hj ?_
    rw [optD_nn]
    refine iteP (fun _ => k _ (.inl ⟨_, rfl⟩)) fun hi => ?_
    cases hx : img w (sl s j l) with
    | none => rw [hx] at hi; exact (hi rfl).elim
    | some x =>
    have hx0 := img_at0 hx (r.sl_wd j)
    have a0 := at_il (l := x) (i := 0) hx0.1
    simp only [x_c0] at a0
    have img67 : ∀ R : Dat → Int → Prop, R (.lst (il x)) n → f_67 [rg c w b l, .int j] n R := fun R h => w_67 r hj (by rw [hx]; exact h)
    have s9 := r.s9
    have ejs : (j : Int) * (s : Int) = ((j * s : Nat) : Int) := by simp
    have one : ∀ (t : Nat), t < s → ∀ o ∈ [Dat.tup [.str "write", .int ((j * s + t : Nat) : Int), .int 0]], Op w b (c * s) o := fun t ht o h => by
      rw [List.mem_singleton.mp h]
      exact .inl ⟨_, _, rfl, in_lt hj ht, Int.le_refl _, z0⟩
    simp! [rg_sh]
    refine w_69 r ?_
    simp! [rg_sh]
    refine g0 _ ?_
    simp! [rg_sh, whyN_shs]
    refine ⟨by omega, by omega, by rw [rng_len]; exact szl (by omega), ?_⟩
    rw [Int.toNat_natCast]
    refine lc_inv (fun q acc m => ∃ (i : Nat) (ns : List Int), i ≤ c ∧ q = rngD i (c - i) ∧ acc = il ns ∧ m = n) ?_ ?_ _ _ _ ⟨0, [], by omega, by rw [Nat.sub_zero]; rfl, rfl, rfl⟩
    · rintro acc m ⟨i, ns, q1, q2, rfl, rfl⟩
      simp! [il_closs, il_shs]
      refine ne_emp (k := 1) (by decide) (cmp_il ns) ?_
      simp! [ejs]
      refine iteP (fun _ => ?_) fun _ => k _ (.inl ⟨_, rfl⟩)
      exact ⟨.inl ⟨by omega, by omega⟩, k _ (.inr ⟨_, _, rfl, one 0 (by omega), (by show 1 ≤ 200; decide), .inr (.inr (.inr (.inl ⟨j, rfl⟩)))⟩)⟩
    · rintro d q R hR acc m ⟨i, ns, q1, q2, rfl, rfl⟩
      obtain ⟨hi', rfl, q3⟩ := rng_step q2
      have r1 : R (il ns) m := hR _ _ ⟨i + 1, ns, by omega, q3, rfl, rfl⟩
      have r2 : R (il ns ++ [.int i]) m := hR _ _ ⟨i + 1, ns ++ [(i : Int)], by omega, q3, by rw [il_app]; rfl, rfl⟩
      have wa : atI (whyN w s l (bst w s c l) c) (i : Int) = some (.str (whyAt (bst w s c l) i (word w (sl s i l)))) := by rw [at_nat]; exact whyN_at hi'
      have hl' := r.sl_len hi'
      have b3 := at_il (l := sl s i l) (i := 2) (by omega)
      simp only [x_c2] at b3
      simp! [wa, rg_sh]
      refine iteP (fun _ => ⟨rfl, rfl, iteP (fun _ => ?_) fun _ => r1⟩) fun _ => r1
      refine w_66 r hi' ?_
      simp! [il_shs, b3]
      exact iteP (fun _ => r2) fun _ => r1
  · simp! [slD_sh, slD_clos, slD_nn, he, at3_0, t_3, t_5, t_6, rnD_sh, rnD_nn, rg_sh, hg.sh]
    refine iteP (fun _ => k _ (.inl ⟨_, rfl⟩)) fun hn => ?_
    cases run with
    | none => exact (hn rfl).elim
    | some j =>
    have hj := hr j rfl
    have hl := r.sl_len hj
    have b2 := at_il (l := sl s j l) (i := 2) (by omega)
    simp only [x_c2] at b2
    simp! [rnD]
    refine w_67 r hj ?_
    rw [optD_nn]
    refine iteP (fun _ => k _ (.inl ⟨_, rfl⟩)) fun hi => ?_
    cases hx : img w (sl s j l) with
    | none => rw [hx] at hi; exact (hi rfl).elim
    | some x =>
    have hx0 := img_at0 hx (r.sl_wd j)
    have a0 := at_il (l := x) (i := 0) hx0.1
    simp only [x_c0] at a0
    have img67 : ∀ R : Dat → Int → Prop, R (.lst (il x)) n → f_67 [rg c w b l, .int j] n R := fun R h => w_67 r hj (by rw [hx]; exact h)
    have s9 := r.s9
    have ejs : (j : Int) * (s : Int) = ((j * s : Nat) : Int) := by simp
    have one : ∀ (t : Nat), t < s → ∀ o ∈ [Dat.tup [.str "write", .int ((j * s + t : Nat) : Int), .int 0]], Op w b (c * s) o := fun t ht o h => by
      rw [List.mem_singleton.mp h]
      exact .inl ⟨_, _, rfl, in_lt hj ht, Int.le_refl _, z0⟩
    have u1 : atI [Dat.str "update", g, e] 1 = some g := rfl
    obtain ⟨im, im1, im2, im3, hgi⟩ := hg
    have i0 := at_il (l := im) (i := 0) (by omega)
    simp only [x_c0] at i0
    have i55 : ∀ R : Dat → Int → Prop, R (.own [.int (sums w x).1, .int (sums w x).2]) n → f_55 [.int w, .lst (il x)] n R := fun R h => w_55 w x (by have := r.w4; omega) (by omega) h
    rcases hgi with rfl | ⟨x1, x2, x3, x4, x5, rfl⟩
    · simp! [u1, at2_0, at2_1, rg_sh, il_shs]
      refine w_66 r hj ?_
      simp! [il_shs, b2, t_8, i0, rg_sh]
      refine iteP (fun _ => k _ (.inl ⟨_, rfl⟩)) fun _ => ?_
      refine img67 _ ?_
      simp! [il_shs, a0, il_len, i0, rg_sh]
      refine iteP (fun _ => ?_) fun _ => ?_
      · refine img67 _ ?_
        simp! [a0]
        exact iteP (fun _ => k _ (.inl ⟨_, rfl⟩)) fun _ => k _ (.inl ⟨_, rfl⟩)
      refine iteP (fun _ => ?_) fun hs => ?_
      · refine img67 _ ?_
        simp! [a0]
        exact iteP (fun _ => k _ (.inl ⟨_, rfl⟩)) fun _ => k _ (.inl ⟨_, rfl⟩)
      refine g0 _ ?_
      simp!
      refine iteP (fun _ => ?_) fun hj2 => ?_
      · refine g1 _ ?_
        simp! [at3_0]
        refine w_56 w (by omega) ?_
        exact w_t71 (p := 0) r hj (by omega) (.inl rfl) im1 im2 im3 (by omega) k
      · refine g1 _ ?_
        simp! [at3_0]
        refine w_56 w (by omega) ?_
        exact w_t71 (p := j + 1) r hj (by omega) (.inl rfl) im1 im2 im3 (by omega) k
    · have c2 := cut_to (x1 :: x2 :: x3 :: x4 :: x5 :: im) 2
      have c5 := cut_from (x1 :: x2 :: x3 :: x4 :: x5 :: im) 5
      simp only [x_c2, x_c5, List.take_succ_cons, List.take_zero, List.drop_succ_cons, List.drop_zero] at c2 c5
      simp! [u1, at2_0, at2_1, rg_sh, il_shs, t_7, c5]
      refine w_66 r hj ?_
      simp! [il_shs, b2, i0, rg_sh, c2]
      refine iteP (fun _ => k _ (.inl ⟨_, rfl⟩)) fun _ => ?_
      refine g1 _ ?_
      simp! [at3_0, rg_sh]
      refine img67 _ ?_
      simp!
      refine i55 _ ?_
      simp!
      refine ne_il (l := [x1, x2]) (m := [(sums w x).1, (sums w x).2]) fun bb => ?_
      simp!
      refine iteP (fun _ => k _ (.inl ⟨_, rfl⟩)) fun _ => ?_
      simp! [il_shs, i0, rg_sh]
      refine img67 _ ?_
      simp! [il_shs, a0, il_len, i0, rg_sh]
      refine iteP (fun _ => ?_) fun _ => ?_
      · refine img67 _ ?_
        simp! [a0]
        exact iteP (fun _ => k _ (.inl ⟨_, rfl⟩)) fun _ => k _ (.inl ⟨_, rfl⟩)
      refine iteP (fun _ => ?_) fun hs => ?_
      · refine img67 _ ?_
        simp! [a0]
        exact iteP (fun _ => k _ (.inl ⟨_, rfl⟩)) fun _ => k _ (.inl ⟨_, rfl⟩)
      refine g0 _ ?_
      simp!
      refine iteP (fun _ => ?_) fun hj2 => ?_
      · refine g1 _ ?_
        simp! [at3_0]
        refine w_56 w (by omega) ?_
        exact w_t71 (p := 0) r hj (by omega) (.inr rfl) im1 im2 im3 (by omega) k
      · refine g1 _ ?_
        simp! [at3_0]
        refine w_56 w (by omega) ?_
        exact w_t71 (p := j + 1) r hj (by omega) (.inr rfl) im1 im2 im3 (by omega) k
end
end M4
set_option Elab.async false
set_option linter.all false
set_option maxRecDepth 100000
set_option maxHeartbeats 4000000
/-! a step -/
namespace M4
open PySem L2 DL
open N4 (top fDraw fMixed fSame dpD dpDs fitD fitDs)
section
variable {n : Int} {Q : Dat → Int → Prop}
def Cut (e : Dat) : Prop := e = .non ∨ ∃ (a : Nat) (t : List Int), e = .tup [.int a, .lst (il t)] ∧ smallL t
theorem Cut.sh {e : Dat} (h : Cut e) : e.sh = e := by
  rcases h with rfl | ⟨a, t, rfl, _⟩ <;> rfl
def StepR (c w b s : Nat) (d : Dat) : Prop := (∃ x, d = .tup [.str "refused", .str x]) ∨ ∃ (told : Dat) (l : List Int) (run : Option Nat), d = .tup [.str "done", told, rg c w b l, rnD run] ∧ Rg c w b s l ∧ (∀ j, run = some j → j < c) ∧ cmpK 1 told
theorem ev_last {w : Nat} {e ev : Dat} (h : Ev w e ev) {R : Dat → Prop} (q : R e) : dIx ev (.int (-1)) R := by
  rcases h with rfl | rfl | rfl | ⟨g, rfl, _⟩ <;> exact ⟨e, rfl, q⟩
theorem Rg.keep {c w b s : Nat} {l l' : List Int} (r : Rg c w b s l) (h : l'.length = c * s) (hd : wds w l' = true) : Rg c w b s l' := ⟨r.c2, r.c5, r.w4, r.w8, r.b3, r.b8, r.s2, r.s9, r.dv, h, hd⟩
theorem t_9 : (Str.ofString "none" = Str.ofString "run") = False := eq_false (by decide)
theorem rg_st (c w b : Nat) (l : List Int) : rg c w b l = .tup [.int c, stD w b l] := rfl
theorem cmp_s {k : Nat} {s : Str} (h : PyData.canLay0 (.str s) = true) : cmpK k (.str s) := ⟨rfl, h, Nat.zero_le _⟩
theorem told_cmp {c : Nat} {d : Dat} (h : Told c d) : cmpK 1 d := by
  have i : ∀ z : Int, cmpK 0 (.int z) := fun z => cmp_int z
  have s1 : cmpK 0 (.str "none") := cmp_s (by decide +kernel)
  have s2 : cmpK 0 (.str "run") := cmp_s (by decide +kernel)
  have s3 : cmpK 0 (.str "good") := cmp_s (by decide +kernel)
  have s4 : cmpK 0 (.str "back") := cmp_s (by decide +kernel)
  have s5 : cmpK 0 (.str "put") := cmp_s (by decide +kernel)
  rcases h with rfl | ⟨j, v, rfl, _⟩ | ⟨j, rfl⟩ | ⟨j, rfl⟩ | ⟨j, v, rfl⟩ <;> refine cmp_tup (k := 0) fun d hd => ?_ <;> simp only [List.mem_cons, List.not_mem_nil, or_false] at hd
  · rw [hd]; exact s1
  · rcases hd with rfl | rfl | rfl
    · exact s2
    · exact i _
    · exact i _
  · rcases hd with rfl | rfl
    · exact s3
    · exact i _
  · rcases hd with rfl | rfl
    · exact s4
    · exact i _
  · rcases hd with rfl | rfl | rfl
    · exact s5
    · exact i _
    · exact i _
theorem w_72 {c w b s : Nat} {l : List Int} {run : Option Nat} {e ev : Dat} (r : Rg c w b s l) (hr : ∀ j, run = some j → j < c) (he : Cut e) (hev : Ev w e ev) (k : ∀ d, StepR c w b s d.sh → Q d n) : f_72 [rg c w b l, rnD run, ev] n Q := by
  have evs := hev.sh he.sh
  have hl := r.len_le
  have g1 : ∀ R : Dat → Prop, R (stD w b l) → dIx (rg c w b l) (.int 1) R := fun R h => ⟨_, at2_1, h⟩
  have g0 : ∀ R : Dat → Prop, R (.int c) → dIx (rg c w b l) (.int 0) R := fun R h => ⟨_, at2_0, h⟩
  unfold f_72 b_72
  simp! [rg_sh, rnD_sh, evs]
  refine w_71 r hr he.sh hev fun d hd => ?_
  simp!
  rcases hd with ⟨x, hx⟩ | ⟨ops, told, hx, ho, hn, ht⟩
  · rw [hx]
    simp! [at2_0]
    exact k _ (.inl ⟨x, hx⟩)
  · rw [hx]
    have cl : cmpK 2 (.lst ops) := cmp_lst fun o h => cmp_op (ho o h)
    simp! [at2_0]
    refine eq_ls (by decide) cl ?_
    simp!
    have tsh : told.sh = told := by
      have z : (Dat.tup [Dat.lst ops, told]).sh = Dat.tup [Dat.lst ops, told] := by rw [← hx]; exact (haveI : TabsOf := ⟨[]⟩; sh_sh d)
      simp only [Dat.sh, shs, DL.Dat.tup.injEq, List.cons.injEq, and_true, true_and] at z
      exact z
    have tcm := told_cmp ht
    have so : shs ops = ops := shs_id fun d h => op_sh (ho d h)
    have ops' : ∀ d ∈ ops, Op w b l.length d := by rw [r.len]; exact ho
    simp! [evs, rg_sh]
    refine ev_last hev (g1 _ ?_)
    rcases he with rfl | ⟨a, t, rfl, ta⟩
    · simp! [stD_sh, so, tsh]
      refine ops_go (N := l.length) r.w8 r.b8 (by omega) (by decide) (by decide) ops l _ n (by show 7 < 9; decide) (by show 8 < 9; decide) rfl rfl r.wd ops' fun oj l' hl' hd' => ?_
      have rr : Rg c w b s l' := r.keep (by rw [hl', r.len]) hd'
      have fin : ∀ run' : Option Nat, (∀ j, run' = some j → j < c) → Q (.tup [.str "done", told, .tup [.int c, stD w b l'], rnD run']) n := fun run' h => k _ (.inr ⟨told, l', run', by simp only [Dat.sh, shs, stD_sh, tsh, rnD_sh]; rfl, rr, h, tcm⟩)
      simp! [rg_sh, stD_sh, tsh, rnD_sh]
      refine g0 _ ?_
      rcases ht with rfl | ⟨j, v, rfl, hj⟩ | ⟨j, rfl⟩ | ⟨j, rfl⟩ | ⟨j, v, rfl⟩
      · refine ⟨_, rfl, ?_⟩
        simp!
        exact ⟨rfl, rfl, iteP (fun _ => fin none (fun j z => by cases z)) fun z => (z (by decide)).elim⟩
      · refine ⟨_, rfl, ?_⟩
        simp!
        refine ⟨rfl, rfl, iteP (fun z => absurd z (by decide)) fun _ => ⟨_, rfl, ?_⟩⟩
        simp!
        exact ⟨_, rfl, fin (some j) fun j' z => by cases z; exact hj⟩
      · refine ⟨_, rfl, ?_⟩
        simp!
        refine ⟨rfl, rfl, iteP (fun z => absurd z (by decide)) fun _ => ⟨_, rfl, ?_⟩⟩
        simp! [show (Str.ofString "good" = Str.ofString "run") = False from eq_false (by decide)]
        exact fin run hr
      · refine ⟨_, rfl, ?_⟩
        simp!
        exact ⟨rfl, rfl, iteP (fun _ => fin none (fun j z => by cases z)) fun z => (z (by decide)).elim⟩
      · refine ⟨_, rfl, ?_⟩
        simp!
        refine ⟨rfl, rfl, iteP (fun z => absurd z (by decide)) fun _ => ⟨_, rfl, ?_⟩⟩
        simp! [show (Str.ofString "put" = Str.ofString "run") = False from eq_false (by decide)]
        exact fin run hr
    · have refu : ∀ x : Str, Q (.tup [.str "refused", .str x]) n := fun x => k _ (.inl ⟨x, rfl⟩)
      simp! [stD_sh, so, tsh, at2_0, at2_1, il_shs]
      refine iteP (fun _ => refu _) fun ha => ?_
      obtain ⟨op, hop⟩ : ∃ op, ops[a]? = some op := ⟨ops[a], List.getElem?_eq_getElem (by omega)⟩
      refine w_64 r.w8 r.b8 (by omega) r.wd ops' hop ta (by omega) ?_ fun h1 h2 => ?_
      · simp!
        exact refu _
      · simp! [stD_sh, so, tsh, at2_0, at2_1, il_shs, rg_sh]
        refine g0 _ ?_
        refine w_63 r.w8 r.b8 (by omega) r.wd ops' hop h1 h2 fun l' hl' hd' => ?_
        refine k _ (.inr ⟨.tup [.str "cut"], l', none, ?_, r.keep (by rw [hl', r.len]) hd', (fun j z => by cases z), cmp_tup (k := 0) fun d hd => by rw [List.mem_singleton.mp hd]; exact cmp_s (by decide +kernel)⟩)
        simp only [Dat.sh, shs, il_shs]
        rfl
end
end M4
set_option Elab.async false
set_option linter.all false
set_option maxRecDepth 100000
set_option maxHeartbeats 4000000
/-! a drawn ring -/
namespace M4
open PySem L2 DL
open N4 (top fDraw fMixed fSame dpD dpDs fitD fitDs)
section
variable {n : Int} {Q : Dat → Int → Prop}
theorem w_47 {l : List Dat} (hl : 0 < l.length) (hl2 : l.length ≤ 1000) (hs : shs l = l) (hn : n < 1000000) (k : ∀ x ∈ l, Q x (n + 1)) : f_47 [.strm, .lst l] n Q := by
  unfold f_47 b_47
  simp!
  refine ⟨_, rfl, ⟨by omega, by omega, hn⟩, fun g g0 g1 => ?_⟩
  simp!
  obtain ⟨a, rfl⟩ : ∃ a : Nat, g = a := ⟨g.toNat, by omega⟩
  refine ⟨l[a], ?_, k _ (List.getElem_mem _)⟩
  · rw [at_nat]
    exact List.getElem?_eq_getElem (by omega)
theorem w_47i {l : List Int} (hl : 0 < l.length) (hl2 : l.length ≤ 1000) (hn : n < 1000000) (k : ∀ x ∈ l, Q (.int x) (n + 1)) : f_47 [.strm, .lst (il l)] n Q :=
  w_47 (by rw [il_len]; exact hl) (by rw [il_len]; exact hl2) (il_shs l) hn fun x hx => by
    obtain ⟨y, hy, rfl⟩ := List.mem_map.mp hx
    exact k y hy
theorem w_74 (h0 : 0 ≤ n) (hn : n + 200 < 1000000) (k : ∀ (c w b m : Nat) (body : List Int) (n' : Int), n ≤ n' → n' ≤ n + 30 → 2 ≤ c → c ≤ 5 → 4 ≤ w → w ≤ 8 → 3 ≤ b → b ≤ 8 → 2 ≤ m → m ≤ 12 → body.length ≤ 6 → wds w body = true → body.length + 9 ≤ b * m → Q (.tup [.int c, .tup [.int w, .int b, .own (il (frL w b m c (mkI w 0 body)))]]) n') : f_74 [.strm] n Q := by
  unfold f_74 b_74
  simp!
  refine w_47i (l := [4, 5, 6, 8]) (by decide) (by decide) (by omega) fun w' hw' => ?_
  have hw : 4 ≤ w' ∧ w' ≤ 8 := by simp at hw'; omega
  obtain ⟨w, rfl⟩ : ∃ w : Nat, w' = w := ⟨w'.toNat, by omega⟩
  simp!
  refine w_47i (l := [3, 4, 5, 8]) (by decide) (by decide) (by omega) fun b' hb' => ?_
  have hb : 3 ≤ b' ∧ b' ≤ 8 := by simp at hb'; omega
  obtain ⟨b, rfl⟩ : ∃ b : Nat, b' = b := ⟨b'.toNat, by omega⟩
  simp!
  refine ⟨4, rfl, ⟨by decide, by decide, by omega⟩, fun g g0 g1 => ?_⟩
  obtain ⟨c, hc⟩ : ∃ c : Nat, 2 + g = c := ⟨(2 + g).toNat, by omega⟩
  simp! [hc]
  have on15 := on_pos (w := w) (by omega)
  refine w_65 (v := 0) (by omega) (by omega) (by omega) (by omega) fun body n' n1 n2 b1 b2 => ?_
  simp! [il_closs, il_shs, il_len, hc]
  rw [mkI_len]
  refine ⟨⟨by omega, by omega⟩, ?_⟩
  have e0 : (((body.length + 5 : Nat) : Int) + 3 + (b : Int)) / (b : Int) = (((body.length + 8 + b) / b : Nat) : Int) := by
    rw [show (((body.length + 5 : Nat) : Int) + 3 + (b : Int)) = ((body.length + 8 + b : Nat) : Int) by omega]
    simp
  have e1 : (body.length + 8 + b) / b * b + b > body.length + 8 + b := by
    have := Nat.lt_div_mul_add (a := body.length + 8 + b) (b := b) (by omega)
    omega
  have e2 : (body.length + 8 + b) / b ≤ 10 := by
    have : (body.length + 8 + b) / b ≤ (body.length + 8 + b) / 3 := Nat.div_le_div_left (by omega) (by decide)
    omega
  refine ⟨2, rfl, ⟨by decide, by decide, by omega⟩, fun y y0 y1 => ?_⟩
  rw [e0]
  generalize hq : (body.length + 8 + b) / b = q at e1 e2 ⊢
  obtain ⟨m, hm, hm2⟩ : ∃ m : Nat, (if ((q : Nat) : Int) > 2 then ((q : Nat) : Int) else 2) + y = m ∧ (2 ≤ m ∧ m ≤ 12 ∧ q ≤ m) := by
    refine ⟨((if ((q : Nat) : Int) > 2 then ((q : Nat) : Int) else 2) + y).toNat, ?_⟩
    split <;> omega
  have bm : q * b ≤ b * m := by rw [Nat.mul_comm]; exact Nat.mul_le_mul_left b hm2.2.2
  simp! [hm]
  have lim : (mkI w 0 body).length = body.length + 5 := rfl
  refine w_68 (m := m) (by omega) (by omega) (by omega) (by omega) hm2.2.1 (by omega) ?_
  exact k c w b m body _ (by omega) (by omega) (by omega) (by omega) (by omega) (by omega) (by omega) (by omega) hm2.1 hm2.2.1 b1 b2 (by omega)
end
end M4
set_option Elab.async false
set_option linter.all false
set_option maxRecDepth 100000
set_option maxHeartbeats 4000000
/-! events: the end of a turn -/
namespace M4
open PySem L2 DL
open N4 (top fDraw fMixed fSame dpD dpDs fitD fitDs)
/-! the body of the loop, in parts -/
def u_10 : DS := (dSeq (dSet 20 [false, true, false, false, false, true, false, false, false, false, false, false, false, false, false, true, false, false, false, false, false] (dCall 3 f_72 (dCons (dVar 1) (dCons (dVar 5) (dCons (dVar 15) dNil))))) (dSeq (dApp 3 [false, false, false, false, false, false, false, false, false, false, false, false, false, false, false, true, false, false, false, false, false] (dVar 15)) (dSeq (dApp 4 [false, false, false, false, false, false, false, false, false, false, false, false, false, false, false, false, false, false, false, false, true] (dVar 20)) (dAsg [false, true, false, false, false, true, false, false, false, false, false, false, false, false, false, false, false, false, false, false, true] (dIf (dTest (dOp dEq (dOp dIx (dVar 20) (dC (.int 0))) (dC (.str "done")))) (dTup (dCons (dOp dIx (dVar 20) (dC (.int 2))) (dCons (dOp dIx (dVar 20) (dC (.int 3))) dNil))) (dTup (dCons (dVar 1) (dCons (dVar 5) dNil)))) (dgSeq 2 (dgCons (dgName 1) (dgCons (dgName 5) dgNil)))))))
def u_9 : DS := (dSeq (dIfS [true, false, false, false, false, false, false, false, false, false, false, false, false, false, false, false, true, false, false, false, false] (dAnd (dTest (dOp dNe (dOp dIx (dVar 16) (dC (.int 0))) (dC (.str "refused")))) (dAnd (dTest (dOp dNe (dOp dIx (dVar 16) (dC (.int 0))) (dLst dNil))) (dTest (dOp dEq (dCall 2 fDraw (dCons (dVar 0) (dCons (dC (.int 3)) dNil))) (dC (.int 0)))))) (dSeq (dPar 17 18 [true, true, false, false, false, false, false, false, false, false, false, false, false, false, false, false, true, false, false, false, false] (dCons (dCall 2 fDraw (dCons (dVar 0) (dCons (dCB dLen (dCons (dOp dIx (dVar 16) (dC (.int 0))) dNil)) dNil))) (dCons (dOp dIx (dVar 1) (dC (.int 1))) dNil))) (dSeq (dFor [false, false, false, false, false, false, false, false, false, false, false, false, false, false, false, false, true, true, false, false, false] (dItems (dSl (dOp dIx (dVar 16) (dC (.int 0))) dNoPart (dPart (dVar 17)))) (dgName 19) (dSet 18 [false, false, false, false, false, false, false, false, false, false, false, false, false, false, false, false, false, false, true, true, false] (dCall 2 f_61 (dCons (dVar 18) (dCons (dVar 19) dNil))))) (dSet 15 [true, false, false, false, false, false, false, false, false, false, false, false, false, false, false, true, true, true, true, false, false] (dOp dPlus (dSl (dVar 15) dNoPart (dPart (dUn (dU fun i => .int (-i)) (dC (.int 1))))) (dTup (dCons (dTup (dCons (dVar 17) (dCons (dCall 3 f_62 (dCons (dVar 0) (dCons (dVar 18) (dCons (dOp dIx (dOp dIx (dVar 16) (dC (.int 0))) (dVar 17)) dNil)))) dNil))) dNil)))))) (dIfS [true, false, false, false, false, false, false, false, false, false, false, false, false, false, false, false, false, false, false, false, false] (dTest (dOp dEq (dCall 2 fDraw (dCons (dVar 0) (dCons (dC (.int 20)) dNil))) (dC (.int 0)))) (dSet 15 [true, false, false, false, false, false, false, false, false, false, false, false, false, false, false, true, false, false, false, false, false] (dOp dPlus (dSl (dVar 15) dNoPart (dPart (dUn (dU fun i => .int (-i)) (dC (.int 1))))) (dTup (dCons (dTup (dCons (dCall 2 fDraw (dCons (dVar 0) (dCons (dC (.int 4)) dNil))) (dCons (dLst (dCons (dCall 2 fDraw (dCons (dVar 0) (dCons (dC (.int 4)) dNil))) dNil)) dNil))) dNil)))) dNext)) u_10)
def u_8 : DS := (dSeq (dSet 16 [false, true, false, false, false, true, false, false, false, false, false, false, false, false, false, true, false, false, false, false, false] (dCall 3 f_71 (dCons (dVar 1) (dCons (dVar 5) (dCons (dVar 15) dNil))))) u_9)
def u_7 : DS := (dSeq (dSet 15 [true, false, false, false, false, true, false, false, true, false, false, false, false, false, false, true, false, false, false, false, false] (dIf (dOr (dTest (dOp (dI0 fun i j => .bl (decide (i < j))) (dVar 8) (dC (.int 3)))) (dAnd (dTest (dIsN (dVar 5))) (dTest (dOp (dI0 fun i j => .bl (decide (j < i))) (dCall 2 fDraw (dCons (dVar 0) (dCons (dC (.int 6)) dNil))) (dC (.int 0)))))) (dTup (dCons (dC (.str "start")) (dCons (dC .non) dNil))) (dIf (dTest (dOp (dI0 fun i j => .bl (decide (i < j))) (dVar 8) (dC (.int 5)))) (dTup (dCons (dC (.str "confirm")) (dCons (dC .non) dNil))) (dIf (dTest (dOp dEq (dVar 8) (dC (.int 5)))) (dTup (dCons (dC (.str "back")) (dCons (dC .non) dNil))) (dVar 15))))) u_8)
def u_5 : DS := (dSeq (dSet 14 [true, false, false, false, false, false, false, false, false, false, true, true, true, true, false, false, false, false, false, false, false] (dIf (dOr (dTest (dIsN (dVar 12))) (dTest (dOp dEq (dCall 2 fDraw (dCons (dVar 0) (dCons (dC (.int 2)) dNil))) (dC (.int 0))))) (dTup (dCons (dC (.str "image")) (dCons (dVar 11) dNil))) (dTup (dCons (dC (.str "patch")) (dCons (dOp dPlus (dOp dPlus (dOp dPlus (dVar 13) (dCall 2 f_55 (dCons (dVar 10) (dCons (dVar 11) dNil)))) (dLst (dCons (dCB dLen (dCons (dVar 11) dNil)) dNil))) (dVar 11)) dNil))))) (dSeq (dSet 15 [false, false, false, false, false, false, false, false, false, false, false, false, false, false, true, false, false, false, false, false, false] (dTup (dCons (dC (.str "update")) (dCons (dVar 14) (dCons (dC .non) dNil))))) u_7))
def u_4 : DS := (dSeq (dSet 13 [true, false, false, false, false, false, false, false, false, false, true, true, true, false, false, false, false, false, false, false, false] (dIf (dTest (dIsN (dVar 12))) (dLst dNil) (dCall 2 f_55 (dCons (dVar 10) (dCons (dIf (dTest (dOp (dI0 fun i j => .bl (decide (j < i))) (dCall 2 fDraw (dCons (dVar 0) (dCons (dC (.int 5)) dNil))) (dC (.int 0)))) (dVar 12) (dOp dPlus (dVar 11) (dLst (dCons (dC (.int 1)) dNil)))) dNil))))) u_5)
def u_3 : DS := (dSeq (dSet 12 [false, true, false, false, false, true, false, false, false, false, false, false, false, false, false, false, false, false, false, false, false] (dIf (dTest (dIsN (dVar 5))) (dC .non) (dCall 2 f_67 (dCons (dVar 1) (dCons (dVar 5) dNil))))) u_4)
def u_2 : DS := (dSeq (dPar 10 11 [true, true, false, false, false, false, false, false, false, true, false, false, false, false, false, false, false, false, false, false, false] (dCons (dOp dIx (dOp dIx (dVar 1) (dC (.int 1))) (dC (.int 0))) (dCons (dCall 3 f_65 (dCons (dVar 0) (dCons (dOp dIx (dOp dIx (dVar 1) (dC (.int 1))) (dC (.int 0))) (dCons (dCB dMin (dCons (dOp (dI0 fun i j => .int (i - j)) (dCall 1 f_58 (dCons (dOp dIx (dOp dIx (dVar 1) (dC (.int 1))) (dC (.int 0))) dNil)) (dC (.int 1))) (dCons (dVar 9) dNil))) dNil)))) dNil))) u_3)
def u_0 : DS := (dSeq (dPar 8 6 [true, false, false, false, false, false, true, false, false, false, false, false, false, false, false, false, false, false, false, false, false] (dCons (dCall 2 fDraw (dCons (dVar 0) (dCons (dC (.int 9)) dNil))) (dCons (dOp dPlus (dVar 6) (dC (.int 1))) dNil))) (dSeq (dSet 9 [true, false, false, false, false, false, true, false, false, false, false, false, false, false, false, false, false, false, false, false, false] (dIf (dTest (dOp dEq (dCall 2 fDraw (dCons (dVar 0) (dCons (dC (.int 6)) dNil))) (dC (.int 0)))) (dCall 2 fDraw (dCons (dVar 0) (dCons (dOp dPlus (dVar 6) (dC (.int 1))) dNil))) (dOp dPlus (dVar 6) (dCall 2 fDraw (dCons (dVar 0) (dCons (dC (.int 2)) dNil)))))) u_2))
theorem u0_eq : (dSeq (dPar 8 6 [true, false, false, false, false, false, true, false, false, false, false, false, false, false, false, false, false, false, false, false, false] (dCons (dCall 2 fDraw (dCons (dVar 0) (dCons (dC (.int 9)) dNil))) (dCons (dOp dPlus (dVar 6) (dC (.int 1))) dNil))) (dSeq (dSet 9 [true, false, false, false, false, false, true, false, false, false, false, false, false, false, false, false, false, false, false, false, false] (dIf (dTest (dOp dEq (dCall 2 fDraw (dCons (dVar 0) (dCons (dC (.int 6)) dNil))) (dC (.int 0)))) (dCall 2 fDraw (dCons (dVar 0) (dCons (dOp dPlus (dVar 6) (dC (.int 1))) dNil))) (dOp dPlus (dVar 6) (dCall 2 fDraw (dCons (dVar 0) (dCons (dC (.int 2)) dNil)))))) (dSeq (dPar 10 11 [true, true, false, false, false, false, false, false, false, true, false, false, false, false, false, false, false, false, false, false, false] (dCons (dOp dIx (dOp dIx (dVar 1) (dC (.int 1))) (dC (.int 0))) (dCons (dCall 3 f_65 (dCons (dVar 0) (dCons (dOp dIx (dOp dIx (dVar 1) (dC (.int 1))) (dC (.int 0))) (dCons (dCB dMin (dCons (dOp (dI0 fun i j => .int (i - j)) (dCall 1 f_58 (dCons (dOp dIx (dOp dIx (dVar 1) (dC (.int 1))) (dC (.int 0))) dNil)) (dC (.int 1))) (dCons (dVar 9) dNil))) dNil)))) dNil))) (dSeq (dSet 12 [false, true, false, false, false, true, false, false, false, false, false, false, false, false, false, false, false, false, false, false, false] (dIf (dTest (dIsN (dVar 5))) (dC .non) (dCall 2 f_67 (dCons (dVar 1) (dCons (dVar 5) dNil))))) (dSeq (dSet 13 [true, false, false, false, false, false, false, false, false, false, true, true, true, false, false, false, false, false, false, false, false] (dIf (dTest (dIsN (dVar 12))) (dLst dNil) (dCall 2 f_55 (dCons (dVar 10) (dCons (dIf (dTest (dOp (dI0 fun i j => .bl (decide (j < i))) (dCall 2 fDraw (dCons (dVar 0) (dCons (dC (.int 5)) dNil))) (dC (.int 0)))) (dVar 12) (dOp dPlus (dVar 11) (dLst (dCons (dC (.int 1)) dNil)))) dNil))))) (dSeq (dSet 14 [true, false, false, false, false, false, false, false, false, false, true, true, true, true, false, false, false, false, false, false, false] (dIf (dOr (dTest (dIsN (dVar 12))) (dTest (dOp dEq (dCall 2 fDraw (dCons (dVar 0) (dCons (dC (.int 2)) dNil))) (dC (.int 0))))) (dTup (dCons (dC (.str "image")) (dCons (dVar 11) dNil))) (dTup (dCons (dC (.str "patch")) (dCons (dOp dPlus (dOp dPlus (dOp dPlus (dVar 13) (dCall 2 f_55 (dCons (dVar 10) (dCons (dVar 11) dNil)))) (dLst (dCons (dCB dLen (dCons (dVar 11) dNil)) dNil))) (dVar 11)) dNil))))) (dSeq (dSet 15 [false, false, false, false, false, false, false, false, false, false, false, false, false, false, true, false, false, false, false, false, false] (dTup (dCons (dC (.str "update")) (dCons (dVar 14) (dCons (dC .non) dNil))))) (dSeq (dSet 15 [true, false, false, false, false, true, false, false, true, false, false, false, false, false, false, true, false, false, false, false, false] (dIf (dOr (dTest (dOp (dI0 fun i j => .bl (decide (i < j))) (dVar 8) (dC (.int 3)))) (dAnd (dTest (dIsN (dVar 5))) (dTest (dOp (dI0 fun i j => .bl (decide (j < i))) (dCall 2 fDraw (dCons (dVar 0) (dCons (dC (.int 6)) dNil))) (dC (.int 0)))))) (dTup (dCons (dC (.str "start")) (dCons (dC .non) dNil))) (dIf (dTest (dOp (dI0 fun i j => .bl (decide (i < j))) (dVar 8) (dC (.int 5)))) (dTup (dCons (dC (.str "confirm")) (dCons (dC .non) dNil))) (dIf (dTest (dOp dEq (dVar 8) (dC (.int 5)))) (dTup (dCons (dC (.str "back")) (dCons (dC .non) dNil))) (dVar 15))))) (dSeq (dSet 16 [false, true, false, false, false, true, false, false, false, false, false, false, false, false, false, true, false, false, false, false, false] (dCall 3 f_71 (dCons (dVar 1) (dCons (dVar 5) (dCons (dVar 15) dNil))))) (dSeq (dIfS [true, false, false, false, false, false, false, false, false, false, false, false, false, false, false, false, true, false, false, false, false] (dAnd (dTest (dOp dNe (dOp dIx (dVar 16) (dC (.int 0))) (dC (.str "refused")))) (dAnd (dTest (dOp dNe (dOp dIx (dVar 16) (dC (.int 0))) (dLst dNil))) (dTest (dOp dEq (dCall 2 fDraw (dCons (dVar 0) (dCons (dC (.int 3)) dNil))) (dC (.int 0)))))) (dSeq (dPar 17 18 [true, true, false, false, false, false, false, false, false, false, false, false, false, false, false, false, true, false, false, false, false] (dCons (dCall 2 fDraw (dCons (dVar 0) (dCons (dCB dLen (dCons (dOp dIx (dVar 16) (dC (.int 0))) dNil)) dNil))) (dCons (dOp dIx (dVar 1) (dC (.int 1))) dNil))) (dSeq (dFor [false, false, false, false, false, false, false, false, false, false, false, false, false, false, false, false, true, true, false, false, false] (dItems (dSl (dOp dIx (dVar 16) (dC (.int 0))) dNoPart (dPart (dVar 17)))) (dgName 19) (dSet 18 [false, false, false, false, false, false, false, false, false, false, false, false, false, false, false, false, false, false, true, true, false] (dCall 2 f_61 (dCons (dVar 18) (dCons (dVar 19) dNil))))) (dSet 15 [true, false, false, false, false, false, false, false, false, false, false, false, false, false, false, true, true, true, true, false, false] (dOp dPlus (dSl (dVar 15) dNoPart (dPart (dUn (dU fun i => .int (-i)) (dC (.int 1))))) (dTup (dCons (dTup (dCons (dVar 17) (dCons (dCall 3 f_62 (dCons (dVar 0) (dCons (dVar 18) (dCons (dOp dIx (dOp dIx (dVar 16) (dC (.int 0))) (dVar 17)) dNil)))) dNil))) dNil)))))) (dIfS [true, false, false, false, false, false, false, false, false, false, false, false, false, false, false, false, false, false, false, false, false] (dTest (dOp dEq (dCall 2 fDraw (dCons (dVar 0) (dCons (dC (.int 20)) dNil))) (dC (.int 0)))) (dSet 15 [true, false, false, false, false, false, false, false, false, false, false, false, false, false, false, true, false, false, false, false, false] (dOp dPlus (dSl (dVar 15) dNoPart (dPart (dUn (dU fun i => .int (-i)) (dC (.int 1))))) (dTup (dCons (dTup (dCons (dCall 2 fDraw (dCons (dVar 0) (dCons (dC (.int 4)) dNil))) (dCons (dLst (dCons (dCall 2 fDraw (dCons (dVar 0) (dCons (dC (.int 4)) dNil))) dNil)) dNil))) dNil)))) dNext)) (dSeq (dSet 20 [false, true, false, false, false, true, false, false, false, false, false, false, false, false, false, true, false, false, false, false, false] (dCall 3 f_72 (dCons (dVar 1) (dCons (dVar 5) (dCons (dVar 15) dNil))))) (dSeq (dApp 3 [false, false, false, false, false, false, false, false, false, false, false, false, false, false, false, true, false, false, false, false, false] (dVar 15)) (dSeq (dApp 4 [false, false, false, false, false, false, false, false, false, false, false, false, false, false, false, false, false, false, false, false, true] (dVar 20)) (dAsg [false, true, false, false, false, true, false, false, false, false, false, false, false, false, false, false, false, false, false, false, true] (dIf (dTest (dOp dEq (dOp dIx (dVar 20) (dC (.int 0))) (dC (.str "done")))) (dTup (dCons (dOp dIx (dVar 20) (dC (.int 2))) (dCons (dOp dIx (dVar 20) (dC (.int 3))) dNil))) (dTup (dCons (dVar 1) (dCons (dVar 5) dNil)))) (dgSeq 2 (dgCons (dgName 1) (dgCons (dgName 5) dgNil))))))))))))))))) = u_0 := rfl
/-- what stays true from turn to turn -/
def IvE (c w b s : Nat) (n : Int) (q : List Dat) (D : DSt) (m : Int) : Prop := ∃ (i : Nat) (l : List Int) (run : Option Nat) (fs ts : List Dat) (o7 o8 o9 o10 o11 o12 o13 o14 o15 o16 o17 o18 o19 o20 : Option Dat), i ≤ 7 ∧ q = rngD i (7 - i) ∧ Rg c w b s l ∧ (∀ j, run = some j → j < c) ∧ shs ts = ts ∧ ts.length = i ∧ fs.length = i ∧ (∀ d ∈ ts, StepR c w b s d) ∧ n ≤ m ∧ m ≤ n + 200 * i ∧
    D = [some .strm, some (rg c w b l), some (.int 7), some (.own fs), some (.own ts), some (rnD run), some (.int i), o7, o8, o9, o10, o11, o12, o13, o14, o15, o16, o17, o18, o19, o20]
section
variable {n : Int} {Q : Dat → Int → Prop}
theorem StepR.sh {c w b s : Nat} {d : Dat} (h : StepR c w b s d.sh) : StepR c w b s d.sh.sh := by rw [(haveI : TabsOf := ⟨[]⟩; sh_sh d)]; exact h
theorem t_10 : (Str.ofString "refused" = Str.ofString "done") = False := eq_false (by decide)
theorem rg_clos (c w b : Int) (l : List Int) : (rg c w b l).clos = false := rfl
theorem w_u10 {c w b s i : Nat} {l : List Int} {run : Option Nat} {e ev x15 : Dat} {fs ts q : List Dat} {K : DEnds} {m : Int} {o7 o8 o9 o10 o11 o12 o13 o14 o16 o17 o18 o19 o20 : Option Dat} (r : Rg c w b s l) (hr : ∀ j, run = some j → j < c) (hi : i < 7) (hq : q = rngD ((i + 1 : Nat) : Int) (7 - (i + 1))) (t1 : shs ts = ts) (t2 : ts.length = i) (t3 : fs.length = i) (t4 : ∀ d ∈ ts, StepR c w b s d) (m1 : n ≤ m) (m2 : m ≤ n + 200 * i + 200) (he : Cut e) (hev : Ev w e ev) (hx : x15.sh = ev)
    (k : ∀ D m, IvE c w b s n q D m → K.nx D m) : u_10 K [some .strm, some (rg c w b l), some (.int 7), some (.own fs), some (.own ts), some (rnD run), some (.int ((i : Int) + 1)), o7, o8, o9, o10, o11, o12, o13, o14, some x15, o16, o17, o18, o19, o20] m := by
  have evs := hev.sh he.sh
  have z : ((i : Int) + 1) = ((i + 1 : Nat) : Int) := by simp
  unfold u_10
  simp! [rg_sh, rnD_sh, hx, evs]
  refine w_72 r hr he hev fun d hd => ?_
  have dd : d.sh.sh = d.sh := (haveI : TabsOf := ⟨[]⟩; sh_sh d)
  have s1 : fs.length < sizeLine := Nat.lt_of_lt_of_le (show fs.length < 1000 by omega) (by decide)
  have s2 : ts.length < sizeLine := Nat.lt_of_lt_of_le (show ts.length < 1000 by omega) (by decide)
  -- the end, whatever was shared on the way
  have fin : ∀ (o7 o8 o9 o10 o11 o12 o13 o14 o15 o16 o17 o18 o19 o20 : Option Dat) (l' : List Int) (run' : Option Nat), Rg c w b s l' → (∀ j, run' = some j → j < c) →
      K.nx [some .strm, some (rg c w b l'), some (.int 7), some (.own (fs ++ [ev])), some (.own (ts ++ [d.sh])), some (rnD run'), some (.int ((i : Int) + 1)), o7, o8, o9, o10, o11, o12, o13, o14, o15, o16, o17, o18, o19, o20] m := fun o7 o8 o9 o10 o11 o12 o13 o14 o15 o16 o17 o18 o19 o20 l' run' r' hr' => by
    refine k _ _ ⟨i + 1, l', run', fs ++ [ev], ts ++ [d.sh], o7, o8, o9, o10, o11, o12, o13, o14, o15, o16, o17, o18, o19, o20, by omega, hq, r', hr', ?_, by rw [List.length_append, t2]; rfl, by rw [List.length_append, t3]; rfl, fun x hx => ?_, m1, by omega, by rw [← z]⟩
    · rw [shs_map, List.map_append, ← shs_map, t1]
      show ts ++ [d.sh.sh] = _
      rw [dd]
    · rcases List.mem_append.mp hx with y | y
      · exact t4 x y
      · rw [List.mem_singleton.mp y]; exact hd
  rcases Bool.eq_false_or_eq_true d.clos with c1 | c1 <;> rcases Bool.eq_false_or_eq_true ev.clos with c2 | c2 <;> rcases Bool.eq_false_or_eq_true d.sh.clos with c3 | c3
  all_goals
    simp! [hx, evs, dd, c1, c2, c3, s1, s2]
    rcases hd with ⟨y, hy⟩ | ⟨told, l', run', hy, r', hr', _⟩
    · rw [hy] at fin ⊢
      simp! [at2_0, t_10, rg_sh, rnD_sh, rg_clos]
      exact fin _ _ _ _ _ _ _ _ _ _ _ _ _ _ l run r hr
    · rw [hy] at fin ⊢
      refine ⟨_, rfl, ?_⟩
      simp!
      refine ⟨_, rfl, _, rfl, ?_⟩
      simp! [rg_sh, rnD_sh, rg_clos]
      exact fin _ _ _ _ _ _ _ _ _ _ _ _ _ _ l' run' r' hr'
end
end M4
set_option Elab.async false
set_option linter.all false
set_option maxRecDepth 100000
set_option maxHeartbeats 4000000
/-! events: the cut -/
namespace M4
open PySem L2 DL
open N4 (top fDraw fMixed fSame dpD dpDs fitD fitDs)
section
variable {n : Int} {Q : Dat → Int → Prop}
theorem ev_cut {w : Nat} {ev : Dat} (h : Ev w .non ev) : ∃ hd : List Dat, ev = .tup (hd ++ [.non]) ∧ DL.cutD (hd ++ [.non]) none (some (-1)) = hd ∧ (∀ e, Ev w e (.tup (hd ++ [e]))) ∧ hd.length ≤ 2 ∧ shs hd = hd := by
  rcases h with rfl | rfl | rfl | ⟨g, rfl, hg⟩
  · exact ⟨[.str "start"], rfl, rfl, fun e => .inl rfl, by decide, rfl⟩
  · exact ⟨[.str "confirm"], rfl, rfl, fun e => .inr (.inl rfl), by decide, rfl⟩
  · exact ⟨[.str "back"], rfl, rfl, fun e => .inr (.inr (.inl rfl)), by decide, rfl⟩
  · refine ⟨[.str "update", g], rfl, rfl, fun e => .inr (.inr (.inr ⟨g, rfl, hg⟩)), by show 2 ≤ 2; decide, ?_⟩
    show [Dat.str "update", g.sh] = _
    rw [hg.sh]
theorem shs_app : ∀ a b : List Dat, shs (a ++ b) = shs a ++ shs b := fun a b => by rw [shs_map, shs_map, shs_map, List.map_append]
theorem w_u9 {c w b s i : Nat} {l : List Int} {run : Option Nat} {ev x15 x16 : Dat} {fs ts q : List Dat} {K : DEnds} {m : Int} {o7 o8 o9 o10 o11 o12 o13 o14 o17 o18 o19 o20 : Option Dat} (r : Rg c w b s l) (hr : ∀ j, run = some j → j < c) (hi : i < 7) (hq : q = rngD ((i + 1 : Nat) : Int) (7 - (i + 1))) (t1 : shs ts = ts) (t2 : ts.length = i) (t3 : fs.length = i) (t4 : ∀ d ∈ ts, StepR c w b s d) (h0 : 0 ≤ n) (hn : n + 2000 < 1000000) (m1 : n ≤ m) (m2 : m ≤ n + 200 * i + 80) (hev : Ev w .non ev) (hx : x15.sh = ev) (ho : OpsR w b c (c * s) x16.sh)
    (k : ∀ D m, IvE c w b s n q D m → K.nx D m) : u_9 K [some .strm, some (rg c w b l), some (.int 7), some (.own fs), some (.own ts), some (rnD run), some (.int ((i : Int) + 1)), o7, o8, o9, o10, o11, o12, o13, o14, some x15, some x16, o17, o18, o19, o20] m := by
  obtain ⟨hd, h1, h2, h3, h4, h5⟩ := ev_cut hev
  have go : ∀ (e y15 : Dat) (m' : Int) (o16 o17 o18 o19 o20 : Option Dat), Cut e → y15.sh = .tup (hd ++ [e]) → m ≤ m' → m' ≤ m + 110 → u_10 K [some .strm, some (rg c w b l), some (.int 7), some (.own fs), some (.own ts), some (rnD run), some (.int ((i : Int) + 1)), o7, o8, o9, o10, o11, o12, o13, o14, some y15, o16, o17, o18, o19, o20] m' := fun e y15 m' o16 o17 o18 o19 o20 he hy q1 q2 =>
    w_u10 r hr hi hq t1 t2 t3 t4 (by omega) (by omega) he (h3 e) hy k
  have hsn : shs (hd ++ [.non]) = hd ++ [.non] := by rw [shs_app, h5]; rfl
  have hcl : ∀ (x : Int) (l : List Dat), closs (hd ++ [.tup [.int x, .lst l]]) = false := fun x l => by
    rw [closs_all, List.all_append]
    show (_ && (false && true)) = false
    rw [Bool.false_and, Bool.and_false]
  have x15s : x15.sh = .tup (hd ++ [.non]) := by rw [hx, h1]
  have hl := r.len_le
  have g1 : ∀ R : Dat → Prop, R (stD w b l) → dIx (rg c w b l) (.int 1) R := fun R h => ⟨_, at2_1, h⟩
  unfold u_9
  simp!
  rcases ho with ⟨x, hx'⟩ | ⟨ops, told, hx', ho, hln, ht⟩
  · rw [hx']
    simp! [at2_0, il_one']
    refine ⟨20, rfl, ⟨by decide, by decide, by omega⟩, fun g _ _ => ?_⟩
    simp!
    refine iteP (fun _ => ?_) fun _ => go .non x15 _ _ _ _ _ _ (.inl rfl) x15s (by omega) (by omega)
    rw [x15s]
    simp! [h2, h5, hsn]
    refine ⟨4, rfl, ⟨by decide, by decide, by omega⟩, fun a _ _ => ?_⟩
    simp!
    refine ⟨4, rfl, ⟨by decide, by decide, by omega⟩, fun v _ _ => ?_⟩
    simp! [h5, hsn, h2, hcl]
    obtain ⟨a', rfl⟩ : ∃ a' : Nat, a = a' := ⟨a.toNat, by omega⟩
    have e28 : (2 : Int) ^ 28 = 268435456 := by decide
    refine ⟨szl (by omega), go (.tup [.int a', .lst (il [v])]) _ _ _ _ _ _ _ (.inr ⟨a', [v], rfl, fun z hz => by rw [List.mem_singleton.mp hz]; omega⟩) ?_ (by omega) (by omega)⟩
    simp only [Dat.sh, shs_app, h5, shs]
    rfl
  · rw [hx']
    have so : shs ops = ops := shs_id fun d h => op_sh (ho d h)
    have cl : cmpK 2 (.lst ops) := cmp_lst fun o h => cmp_op (ho o h)
    have ops' : ∀ d ∈ ops, Op w b l.length d := by rw [r.len]; exact ho
    simp! [at2_0]
    refine ne_ls (by decide) cl ?_
    simp! [at2_0]
    refine ne_emp (by decide) cl ?_
    simp!
    refine iteP (fun he => ?_) fun _ => ?_
    · refine ⟨3, rfl, ⟨by decide, by decide, by omega⟩, fun g _ _ => ?_⟩
      simp!
      refine iteP (fun _ => ?_) fun _ => ?_
      · have hne : 0 < ops.length := by
          cases ops with
          | nil => cases he
          | cons _ _ => exact Nat.succ_pos _
        have tsh : told.sh = told := by
          have z : (Dat.tup [Dat.lst ops, told]).sh = Dat.tup [Dat.lst ops, told] := by rw [← hx']; exact (haveI : TabsOf := ⟨[]⟩; sh_sh x16)
          simp only [Dat.sh, shs, DL.Dat.tup.injEq, List.cons.injEq, and_true, true_and] at z
          exact z
        have stc : (stD w b l).clos = false := rfl
        have sc : ∀ a : Nat, shs (DL.cutD ops none (some (a : Int))) = DL.cutD ops none (some (a : Int)) := fun a => shs_id fun d h => op_sh (ho d (cut_mem h))
        refine ⟨_, rfl, ⟨by omega, by omega, by omega⟩, fun a a0 a1 => ?_⟩
        obtain ⟨a', rfl⟩ : ∃ a' : Nat, a = a' := ⟨a.toNat, by omega⟩
        simp! [rg_sh]
        refine g1 _ ?_
        simp! [stc, stD_sh, rg_sh, hx', at2_0, so, sc, tsh]
        refine ops_go (N := l.length) r.w8 r.b8 (by omega) (by decide) (by decide) _ l _ _ (by show 18 < 21; decide) (by show 19 < 21; decide) rfl rfl r.wd (fun d h => ops' d (cut_mem h)) fun oj l' hl' hd' => ?_
        obtain ⟨op, hop⟩ : ∃ op, ops[a']? = some op := ⟨ops[a'], List.getElem?_eq_getElem (by omega)⟩
        have oo : Op w b l'.length op := by rw [hl']; exact ops' op (List.mem_of_getElem? hop)
        have ai : atI ops (a' : Int) = some op := by rw [at_nat]; exact hop
        simp! [x15s, h2, h5, hsn, stD_sh, at2_0, so, ai, op_sh oo]
        refine w_62 r.w8 r.b8 (by omega) hd' oo (by omega) (by omega) fun t n' n1 n2 ht => ?_
        simp! [il_shs, h5, hsn, h2, hcl]
        refine ⟨szl (by omega), go (.tup [.int a', .lst (il t)]) _ _ _ _ _ _ _ (.inr ⟨a', t, rfl, ht⟩) ?_ (by omega) (by omega)⟩
        simp only [Dat.sh, shs_app, h5, shs]
      · refine ⟨20, rfl, ⟨by decide, by decide, by omega⟩, fun g _ _ => ?_⟩
        simp!
        refine iteP (fun _ => ?_) fun _ => go .non x15 _ _ _ _ _ _ (.inl rfl) x15s (by omega) (by omega)
        rw [x15s]
        simp! [h2, h5, hsn]
        refine ⟨4, rfl, ⟨by decide, by decide, by omega⟩, fun a _ _ => ?_⟩
        simp!
        refine ⟨4, rfl, ⟨by decide, by decide, by omega⟩, fun v _ _ => ?_⟩
        simp! [h5, hsn, h2, hcl]
        obtain ⟨a', rfl⟩ : ∃ a' : Nat, a = a' := ⟨a.toNat, by omega⟩
        have e28 : (2 : Int) ^ 28 = 268435456 := by decide
        refine ⟨szl (by omega), go (.tup [.int a', .lst (il [v])]) _ _ _ _ _ _ _ (.inr ⟨a', [v], rfl, fun z hz => by rw [List.mem_singleton.mp hz]; omega⟩) ?_ (by omega) (by omega)⟩
        simp only [Dat.sh, shs_app, h5, shs]
        rfl
    · refine ⟨20, rfl, ⟨by decide, by decide, by omega⟩, fun g _ _ => ?_⟩
      simp!
      refine iteP (fun _ => ?_) fun _ => go .non x15 _ _ _ _ _ _ (.inl rfl) x15s (by omega) (by omega)
      rw [x15s]
      simp! [h2, h5, hsn]
      refine ⟨4, rfl, ⟨by decide, by decide, by omega⟩, fun a _ _ => ?_⟩
      simp!
      refine ⟨4, rfl, ⟨by decide, by decide, by omega⟩, fun v _ _ => ?_⟩
      simp! [h5, hsn, h2, hcl]
      obtain ⟨a', rfl⟩ : ∃ a' : Nat, a = a' := ⟨a.toNat, by omega⟩
      have e28 : (2 : Int) ^ 28 = 268435456 := by decide
      refine ⟨szl (by omega), go (.tup [.int a', .lst (il [v])]) _ _ _ _ _ _ _ (.inr ⟨a', [v], rfl, fun z hz => by rw [List.mem_singleton.mp hz]; omega⟩) ?_ (by omega) (by omega)⟩
      simp only [Dat.sh, shs_app, h5, shs]
      rfl
end
end M4
set_option Elab.async false
set_option linter.all false
set_option maxRecDepth 100000
set_option maxHeartbeats 4000000
/-! events: a turn -/
namespace M4
open PySem L2 DL
open N4 (top fDraw fMixed fSame dpD dpDs fitD fitDs)
structure Tr (c w b s i : Nat) (n : Int) (l : List Int) (run : Option Nat) (fs ts q : List Dat) : Prop where
  r : Rg c w b s l
  hr : ∀ j, run = some j → j < c
  hi : i < 7
  hq : q = rngD ((i + 1 : Nat) : Int) (7 - (i + 1))
  t1 : shs ts = ts
  t2 : ts.length = i
  t3 : fs.length = i
  t4 : ∀ d ∈ ts, StepR c w b s d
  h0 : 0 ≤ n
  hn : n + 2000 < 1000000
section
variable {n : Int} {Q : Dat → Int → Prop} {c w b s i : Nat} {l : List Int} {run : Option Nat} {fs ts q : List Dat} {K : DEnds} {m : Int} {o7 o8 o9 o10 o11 o12 o13 o14 o15 o16 o17 o18 o19 o20 : Option Dat}
abbrev frm (c w b : Nat) (i : Nat) (l : List Int) (run : Option Nat) (fs ts : List Dat) (r : DSt) : DSt := some .strm :: some (rg c w b l) :: some (.int 7) :: some (.own fs) :: some (.own ts) :: some (rnD run) :: some (.int ((i : Int) + 1)) :: r
theorem w_u8 {ev x15 : Dat} (T : Tr c w b s i n l run fs ts q) (m1 : n ≤ m) (m2 : m ≤ n + 200 * i + 80) (hev : Ev w .non ev) (hx : x15.sh = ev) (k : ∀ D m, IvE c w b s n q D m → K.nx D m) :
    u_8 K [some .strm, some (rg c w b l), some (.int 7), some (.own fs), some (.own ts), some (rnD run), some (.int ((i : Int) + 1)), o7, o8, o9, o10, o11, o12, o13, o14, some x15, o16, o17, o18, o19, o20] m := by
  have evs := hev.sh (e := .non) rfl
  unfold u_8
  simp! [rg_sh, rnD_sh, hx, evs]
  refine w_71 T.r T.hr rfl hev fun d hd => ?_
  rcases Bool.eq_false_or_eq_true d.clos with c1 | c1
  · simp! [c1]
    exact w_u9 T.r T.hr T.hi T.hq T.t1 T.t2 T.t3 T.t4 T.h0 T.hn m1 m2 hev hx hd k
  · simp! [c1, rg_sh, rnD_sh, hx]
    exact w_u9 T.r T.hr T.hi T.hq T.t1 T.t2 T.t3 T.t4 T.h0 T.hn m1 m2 hev evs hd k
theorem w_u7 {ev x15 : Dat} {way : Int} (T : Tr c w b s i n l run fs ts q) (m1 : n ≤ m) (m2 : m ≤ n + 200 * i + 70) (hev : Ev w .non ev) (hx : x15.sh = ev) (k : ∀ D m, IvE c w b s n q D m → K.nx D m) :
    u_7 K [some .strm, some (rg c w b l), some (.int 7), some (.own fs), some (.own ts), some (rnD run), some (.int ((i : Int) + 1)), o7, some (.int way), o9, o10, o11, o12, o13, o14, some x15, o16, o17, o18, o19, o20] m := by
  have evs := hev.sh (e := .non) rfl
  have h0 := T.h0
  have hn := T.hn
  have hi := T.hi
  have cv : ∀ (m' : Int), n ≤ m' → m' ≤ n + 200 * i + 80 → u_8 K [some .strm, some (rg c w b l), some (.int 7), some (.own fs), some (.own ts), some (rnD run), some (.int ((i : Int) + 1)), o7, some (.int way), o9, o10, o11, o12, o13, o14, some (.tup [.str "confirm", .non]), o16, o17, o18, o19, o20] m' := fun m' a1 a2 => w_u8 T a1 a2 (.inr (.inl rfl)) rfl k
  have bv : ∀ (m' : Int), n ≤ m' → m' ≤ n + 200 * i + 80 → u_8 K [some .strm, some (rg c w b l), some (.int 7), some (.own fs), some (.own ts), some (rnD run), some (.int ((i : Int) + 1)), o7, some (.int way), o9, o10, o11, o12, o13, o14, some (.tup [.str "back", .non]), o16, o17, o18, o19, o20] m' := fun m' a1 a2 => w_u8 T a1 a2 (.inr (.inr (.inl rfl))) rfl k
  have sv : ∀ (m' : Int), n ≤ m' → m' ≤ n + 200 * i + 80 → u_8 K [some .strm, some (rg c w b l), some (.int 7), some (.own fs), some (.own ts), some (rnD run), some (.int ((i : Int) + 1)), o7, some (.int way), o9, o10, o11, o12, o13, o14, some (.tup [.str "start", .non]), o16, o17, o18, o19, o20] m' := fun m' a1 a2 => w_u8 T a1 a2 (.inl rfl) rfl k
  have uv : ∀ (y : Dat) (m' : Int), y.sh = ev → n ≤ m' → m' ≤ n + 200 * i + 80 → u_8 K [some .strm, some (rg c w b l), some (.int 7), some (.own fs), some (.own ts), some (rnD run), some (.int ((i : Int) + 1)), o7, some (.int way), o9, o10, o11, o12, o13, o14, some y, o16, o17, o18, o19, o20] m' := fun y m' e a1 a2 => w_u8 T a1 a2 hev e k
  unfold u_7
  rcases Bool.eq_false_or_eq_true ev.clos with c1 | c1
  all_goals
    simp! [rnD_sh, rnD_nn, hx, evs, c1]
    refine iteP (fun _ => sv _ (by omega) (by omega)) fun _ => ?_
    refine iteP (fun _ => ?_) fun _ => ?_
    · refine ⟨6, rfl, ⟨by decide, by decide, by omega⟩, fun g _ _ => ?_⟩
      simp! [hx, evs, c1, rnD_sh]
      refine iteP (fun _ => sv _ (by omega) (by omega)) fun _ => ?_
      refine iteP (fun _ => cv _ (by omega) (by omega)) fun _ => ?_
      refine iteP (fun _ => bv _ (by omega) (by omega)) fun _ => uv _ _ (by first | exact evs | exact hx) (by omega) (by omega)
    · refine iteP (fun _ => cv _ (by omega) (by omega)) fun _ => ?_
      refine iteP (fun _ => bv _ (by omega) (by omega)) fun _ => uv _ _ (by first | exact evs | exact hx) (by omega) (by omega)
end
end M4
set_option Elab.async false
set_option linter.all false
set_option maxRecDepth 100000
set_option maxHeartbeats 4000000
/-! events: what is given -/
namespace M4
open PySem L2 DL
open N4 (top fDraw fMixed fSame dpD dpDs fitD fitDs)
section
variable {n : Int} {Q : Dat → Int → Prop} {c w b s i : Nat} {l : List Int} {run : Option Nat} {fs ts q : List Dat} {K : DEnds} {m : Int} {o7 o8 o9 o10 o11 o12 o13 o14 o15 o16 o17 o18 o19 o20 : Option Dat}
theorem w_u5 {way : Int} {im : List Int} {base : Option (List Int)} {x13 : Dat} (T : Tr c w b s i n l run fs ts q) (m1 : n ≤ m) (m2 : m ≤ n + 200 * i + 60) (im1 : wds w im = true) (im2 : 1 ≤ im.length) (im3 : im.length ≤ 11) (hb : base.isSome = true → ∃ x y : Int, x13 = .own [.int x, .int y]) (k : ∀ D m, IvE c w b s n q D m → K.nx D m) :
    u_5 K [some .strm, some (rg c w b l), some (.int 7), some (.own fs), some (.own ts), some (rnD run), some (.int ((i : Int) + 1)), o7, some (.int way), o9, some (.int w), some (.own (il im)), some (optD base), some x13, o14, o15, o16, o17, o18, o19, o20] m := by
  have h0 := T.h0
  have hn := T.hn
  have hi := T.hi
  have w8 := T.r.w8
  have w4 := T.r.w4
  have uv : ∀ (g y : Dat) (m' : Int) (x11 : Dat) (o13 o14 : Option Dat), Gv w g → y.sh = .tup [.str "update", g, .non] → n ≤ m' → m' ≤ n + 200 * i + 70 → u_7 K [some .strm, some (rg c w b l), some (.int 7), some (.own fs), some (.own ts), some (rnD run), some (.int ((i : Int) + 1)), o7, some (.int way), o9, some (.int w), some x11, some (optD base), o13, o14, some y, o16, o17, o18, o19, o20] m' := fun g y m' x11 o13 o14 hg e a1 a2 => w_u7 T a1 a2 (.inr (.inr (.inr ⟨g, rfl, hg⟩))) e k
  have gi : Gv w (.tup [.str "image", .lst (il im)]) := ⟨im, im1, im2, im3, .inl rfl⟩
  unfold u_5
  cases base with
  | none =>
    simp! [optD, il_shs]
    exact uv _ _ _ _ _ _ gi rfl (by omega) (by omega)
  | some x =>
    obtain ⟨x1, x2, rfl⟩ := hb rfl
    simp! [optD, il_shs]
    refine ⟨2, rfl, ⟨by decide, by decide, by omega⟩, fun g _ _ => ?_⟩
    simp! [il_shs]
    refine iteP (fun _ => uv _ _ _ _ _ _ gi rfl (by omega) (by omega)) fun _ => ?_
    refine w_55 w im (by omega) (by omega) ?_
    simp! [il_shs, il_closs, il_len]
    exact ⟨szl (by omega), uv _ _ _ _ _ _ ⟨im, im1, im2, im3, .inr ⟨_, _, _, _, _, rfl⟩⟩ rfl (by omega) (by omega)⟩
theorem w_u4 {way : Int} {im : List Int} {base : Option (List Int)} (T : Tr c w b s i n l run fs ts q) (m1 : n ≤ m) (m2 : m ≤ n + 200 * i + 50) (im1 : wds w im = true) (im2 : 1 ≤ im.length) (im3 : im.length ≤ 11) (k : ∀ D m, IvE c w b s n q D m → K.nx D m) :
    u_4 K [some .strm, some (rg c w b l), some (.int 7), some (.own fs), some (.own ts), some (rnD run), some (.int ((i : Int) + 1)), o7, some (.int way), o9, some (.int w), some (.own (il im)), some (optD base), o13, o14, o15, o16, o17, o18, o19, o20] m := by
  have h0 := T.h0
  have hn := T.hn
  have hi := T.hi
  have w8 := T.r.w8
  have w4 := T.r.w4
  unfold u_4
  cases base with
  | none =>
    simp! [optD]
    exact w_u5 (base := none) T (by omega) (by omega) im1 im2 im3 (fun z => by cases z) k
  | some x =>
    have fin : ∀ (m' : Int) (p : Int × Int), n ≤ m' → m' ≤ n + 200 * i + 60 → u_5 K [some .strm, some (rg c w b l), some (.int 7), some (.own fs), some (.own ts), some (rnD run), some (.int ((i : Int) + 1)), o7, some (.int way), o9, some (.int w), some (.own (il im)), some (.lst (il x)), some (.own [.int p.1, .int p.2]), o14, o15, o16, o17, o18, o19, o20] m' := fun m' p a1 a2 =>
      w_u5 (base := some x) T a1 a2 im1 im2 im3 (fun _ => ⟨_, _, rfl⟩) k
    simp! [optD]
    refine ⟨5, rfl, ⟨by decide, by decide, by omega⟩, fun g _ _ => ?_⟩
    simp! [il_shs]
    refine iteP (fun _ => ?_) fun _ => ?_
    · refine w_55 w x (by omega) (by omega) ?_
      simp!
      exact fin _ _ (by omega) (by omega)
    · rw [il_len]
      refine ⟨szl (by omega), ?_⟩
      rw [il_one', il_app', il_shs]
      refine w_55 w _ (by omega) (by omega) ?_
      simp!
      exact fin _ _ (by omega) (by omega)
theorem w_u3 {way : Int} {im : List Int} (T : Tr c w b s i n l run fs ts q) (m1 : n ≤ m) (m2 : m ≤ n + 200 * i + 40) (im1 : wds w im = true) (im2 : 1 ≤ im.length) (im3 : im.length ≤ 11) (k : ∀ D m, IvE c w b s n q D m → K.nx D m) :
    u_3 K [some .strm, some (rg c w b l), some (.int 7), some (.own fs), some (.own ts), some (rnD run), some (.int ((i : Int) + 1)), o7, some (.int way), o9, some (.int w), some (.own (il im)), o12, o13, o14, o15, o16, o17, o18, o19, o20] m := by
  unfold u_3
  simp! [rnD_nn, rnD_sh, rg_sh]
  refine iteP (fun _ => ?_) fun h => ?_
  · exact w_u4 (base := none) T m1 (by omega) im1 im2 im3 k
  · obtain ⟨j, hj⟩ : ∃ j, run = some j := by
      cases run with
      | none => exact (h rfl).elim
      | some j => exact ⟨j, rfl⟩
    have e : rnD run = .int j := by rw [hj]; rfl
    have gg : ∀ R : Dat → Int → Prop, R (optD (img w (sl s j l))) m → f_67 [rg c w b l, rnD run] m R := fun R h => by
      rw [e]
      exact w_67 T.r (T.hr j hj) h
    refine gg _ ?_
    have oc : ∀ o : Option (List Int), (optD o).clos = true ∨ (optD o).clos = false := fun o => by cases o <;> simp [optD, Dat.clos, closs]
    rcases oc (img w (sl s j l)) with c1 | c1
    · simp! [c1]
      exact w_u4 (base := img w (sl s j l)) T m1 (by omega) im1 im2 im3 k
    · simp! [c1, rg_sh, rnD_sh]
      exact w_u4 (base := img w (sl s j l)) T m1 (by omega) im1 im2 im3 k
theorem w_u2 {way ver : Int} (T : Tr c w b s i n l run fs ts q) (hv : 0 ≤ ver) (m1 : n ≤ m) (m2 : m ≤ n + 200 * i + 20) (k : ∀ D m, IvE c w b s n q D m → K.nx D m) :
    u_2 K [some .strm, some (rg c w b l), some (.int 7), some (.own fs), some (.own ts), some (rnD run), some (.int ((i : Int) + 1)), o7, some (.int way), some (.int ver), o10, o11, o12, o13, o14, o15, o16, o17, o18, o19, o20] m := by
  have h0 := T.h0
  have hn := T.hn
  have hi := T.hi
  have w8 := T.r.w8
  have w4 := T.r.w4
  have on15 := on_pos w4
  have g1 : ∀ R : Dat → Prop, R (stD w b l) → dIx (rg c w b l) (.int 1) R := fun R h => ⟨_, at2_1, h⟩
  have g10 : ∀ R : Dat → Prop, R (.int w) → dIx (stD w b l) (.int 0) R := fun R h => ⟨_, rfl, h⟩
  unfold u_2
  simp! [rg_sh]
  refine g1 _ ?_
  simp! [stD_sh]
  refine g10 _ ?_
  simp! [rg_sh]
  refine g1 _ ?_
  simp! [stD_sh]
  refine g10 _ ?_
  simp! [rg_sh]
  refine g1 _ ?_
  simp! [stD_sh]
  refine g10 _ ?_
  simp!
  refine w_58 w (by omega) ?_
  simp!
  have hmin : ∀ z : Int, z = (if ver < on w - 1 then ver else on w - 1) → 0 ≤ z ∧ z < on w := by
    rintro z rfl
    split <;> omega
  refine w_65 w4 w8 (by omega) (by omega) fun body n' n1 n2 b1 b2 => ?_
  simp! [il_closs, rg_sh]
  obtain ⟨v0, v1⟩ := hmin _ rfl
  exact w_u3 T (by omega) (by omega) (mkI_wd w4 v0 v1 b1 b2) (by rw [mkI_len]; omega) (by rw [mkI_len]; omega) k
theorem w_u0 {vi : Dat} (T : Tr c w b s i n l run fs ts q) (m1 : n ≤ m) (m2 : m ≤ n + 200 * i) (k : ∀ D m, IvE c w b s n q D m → K.nx D m) :
    u_0 K [some .strm, some (rg c w b l), some (.int 7), some (.own fs), some (.own ts), some (rnD run), some (.int i), some vi, o8, o9, o10, o11, o12, o13, o14, o15, o16, o17, o18, o19, o20] m := by
  have h0 := T.h0
  have hn := T.hn
  have hi := T.hi
  unfold u_0
  simp!
  refine ⟨9, rfl, ⟨by decide, by decide, by omega⟩, fun way _ _ => ?_⟩
  simp!
  refine ⟨6, rfl, ⟨by decide, by decide, by omega⟩, fun six _ _ => ?_⟩
  simp!
  refine iteP (fun _ => ?_) fun _ => ?_
  · refine ⟨_, rfl, ⟨by omega, by omega, by omega⟩, fun g _ _ => ?_⟩
    simp!
    exact w_u2 T (by omega) (by omega) (by omega) k
  · refine ⟨2, rfl, ⟨by decide, by decide, by omega⟩, fun g _ _ => ?_⟩
    simp!
    exact w_u2 T (by omega) (by omega) (by omega) k
end
end M4
set_option Elab.async false
set_option linter.all false
set_option maxRecDepth 100000
set_option maxHeartbeats 4000000
/-! events: all turns -/
namespace M4
open PySem L2 DL
open N4 (top fDraw fMixed fSame dpD dpDs fitD fitDs)
section
variable {n : Int} {Q : Dat → Int → Prop}
theorem w_73 {c w b s : Nat} {l : List Int} (r : Rg c w b s l) (h0 : 0 ≤ n) (hn : n + 2000 < 1000000) (k : ∀ (fs ts : List Dat) (n' : Int), n ≤ n' → n' ≤ n + 1400 → shs ts = ts → ts.length ≤ 7 → (∀ d ∈ ts, StepR c w b s d) → Q (.tup [.lst fs, .lst ts]) n') : f_73 [.strm, rg c w b l, .int 7] n Q := by
  unfold f_73 b_73
  rw [u0_eq]
  simp! [rg_sh]
  refine ⟨by decide, by decide, ?_⟩
  refine for_inv (IvE c w b s n) ?_ ?_ _ _ _ ⟨0, l, none, [], [], none, none, none, none, none, none, none, none, none, none, none, none, none, none, by decide, rfl, r, (fun j h => by cases h), rfl, rfl, rfl, (fun d h => by cases h), Int.le_refl _, by omega, rfl⟩
  · rintro D m ⟨i, l, run, fs, ts, o7, o8, o9, o10, o11, o12, o13, o14, o15, o16, o17, o18, o19, o20, i1, i2, i3, i4, i5, i6, i7, i8, i9, i10, rfl⟩
    have := rng_end i2 i1
    subst this
    simp! [i5]
    exact k _ _ _ i9 (by omega) i5 (by omega) i8
  · rintro d q nx hx D m ⟨i, l, run, fs, ts, o7, o8, o9, o10, o11, o12, o13, o14, o15, o16, o17, o18, o19, o20, i1, i2, i3, i4, i5, i6, i7, i8, i9, i10, rfl⟩
    obtain ⟨hi, rfl, i11⟩ := rng_step i2
    simp!
    exact w_u0 (K := { nx := nx, rt := _, bk := _, ct := nx }) ⟨i3, i4, hi, i11, i5, i6, i7, i8, h0, hn⟩ i9 i10 hx
end
end M4
set_option Elab.async false
set_option linter.all false
set_option maxRecDepth 100000
set_option maxHeartbeats 4000000
/-! the law's body in parts; its end -/
namespace M4
open PySem L2 DL
open N4 (top fDraw fMixed fSame dpD dpDs fitD fitDs)
def v_20 : DS := (dIfS [false, false, false, false, false, false, false, false, false, false, false, false, false, false, false, false, false, true, true, false, false, false, false, false, false, false, false, false, false, false] (dNot (dTest (dCall 2 fSame (dCons (dVar 17) (dCons (dVar 18) dNil))))) (dRet [false, false, false, false, false, false, false, false, false, false, false, false, false, false, false, false, false, false, false, false, false, false, false, false, false, false, false, false, false, false] (dC (.bl false))) dNext)
def v_19 : DS := (dSeq (dFor [false, true, false, false, false, false, false, false, false, false, false, false, false, false, false, false, false, false, false, false, false, false, false, false, true, false, false, false, false, false] (dItems (dCall 2 fMixed (dCons (dVar 1) (dCons (dVar 24) dNil)))) (dgName 25) (dSeq (dSet 26 [false, false, false, false, false, false, false, false, false, false, false, false, false, false, false, false, false, false, false, false, false, false, false, false, false, true, false, false, false, false] (dAndV (dNotN (dVar 25)) (dAndV (dIsLT (dVar 25)) (dAndV (dOp dEq (dCB dLen (dCons (dVar 25) dNil)) (dC (.int 2))) (dAndV (dCall 2 f_54 (dCons (dOp dIx (dVar 25) (dC (.int 0))) (dCons (dC .non) dNil))) (dAndV (dOp (dI0 fun i j => .bl (decide (j < i))) (dOp dIx (dVar 25) (dC (.int 0))) (dC (.int 1))) (dNotN (dOp dIx (dVar 25) (dC (.int 1)))))))))) (dSeq (dIfS [false, false, false, false, false, false, false, false, false, false, false, false, false, false, false, false, false, false, false, false, false, false, false, false, false, false, true, false, false, false] (dTruth (dVar 26)) (dSeq (dAsg [false, false, false, false, false, false, false, false, false, false, false, false, false, false, false, false, false, false, false, false, false, false, false, false, false, true, false, false, false, false] (dOp dIx (dVar 25) (dC (.int 1))) (dgSeq 3 (dgCons (dgName 27) (dgCons (dgName 28) (dgCons (dgName 22) dgNil))))) (dSet 26 [false, false, false, false, false, false, false, false, false, false, false, false, false, false, false, false, false, false, false, false, false, false, true, false, false, true, false, true, true, true] (dAndV (dOp (dI0 fun i j => .bl (decide (j < i))) (dVar 27) (dC (.int 3))) (dAndV (dOp (dI0 fun i j => .bl (decide (j < i))) (dVar 28) (dC (.int 2))) (dAndV (dCB dAll (dCons (dLc (dItems (dVar 22)) (dgName 29) dYes (dOp (dI0 fun i j => .bl (decide (i ≤ j))) (dVar 29) (dCall 1 f_58 (dCons (dVar 27) dNil))) [29]) dNil)) (dAndV (dOp (dI0 fun i j => .bl (decide (j ≤ i))) (dCB dLen (dCons (dVar 22) dNil)) (dOp dTimes (dOp dTimes (dC (.int 2)) (dOp dIx (dVar 25) (dC (.int 0)))) (dVar 28))) (dOp dEq (dOp (dI (fun _ j => 0 < j) fun i j => .int (i % j)) (dCB dInt (dCons (dCB dLen (dCons (dVar 22) dNil)) dNil)) (dOp dTimes (dOp dIx (dVar 25) (dC (.int 0))) (dVar 28))) (dC (.int 0))))))))) dNext) (dIfS [false, false, false, false, false, false, false, false, false, false, false, false, false, false, false, false, false, false, false, false, false, false, false, false, false, true, true, false, false, false] (dNot (dTest (dCall 2 fSame (dCons (dLst (dCons (dCall 1 f_30 (dCons (dCall 1 fCopied (dCons (dVar 25) dNil)) dNil)) (dCons (dCallK 1 0 1 [0] f_30 dNil (dCons (dCall 1 fCopied (dCons (dVar 25) dNil)) dNil)) dNil))) (dCons (dLst (dCons (dVar 26) (dCons (dVar 26) dNil))) dNil))))) (dRet [false, false, false, false, false, false, false, false, false, false, false, false, false, false, false, false, false, false, false, false, false, false, false, false, false, false, false, false, false, false] (dC (.bl false))) dNext)))) v_20)
def v_16 : DS := (dSeq (dSet 23 [false, true, false, false, false, false, false, true, false, false, false, false, false, false, false, false, false, false, false, false, false, false, false, false, false, false, false, false, false, false] (dSl (dVar 7) dNoPart (dPart (dCall 2 fDraw (dCons (dVar 1) (dCons (dCB dLen (dCons (dVar 7) dNil)) dNil)))))) (dSeq (dSet 24 [false, false, false, false, true, true, true, true, false, false, false, false, false, false, true, false, false, true, false, false, false, false, false, true, false, false, false, false, false, false] (dLst (dCons (dVar 17) (dCons (dTup (dCons (dVar 4) (dCons (dTup (dCons (dVar 5) (dCons (dVar 6) (dCons (dVar 23) dNil)))) dNil))) (dCons (dTup (dCons (dOp dPlus (dVar 4) (dC (.int 1))) (dCons (dOp dIx (dVar 14) (dC (.int 1))) dNil))) (dCons (dTup (dCons (dC (.int 1)) (dCons (dOp dIx (dVar 14) (dC (.int 1))) dNil))) (dCons (dTup (dCons (dC (.bl true)) (dCons (dOp dIx (dVar 14) (dC (.int 1))) dNil))) (dCons (dTup (dCons (dVar 4) (dCons (dTup (dCons (dVar 5) (dCons (dC (.int 2)) (dCons (dVar 7) dNil)))) dNil))) dNil)))))))) (dSeq (dExt 24 [false, false, false, false, true, true, true, true, false, false, false, false, false, false, false, false, false, false, false, false, false, false, false, false, false, false, false, false, false, false] (dLst (dCons (dTup (dCons (dVar 4) (dCons (dTup (dCons (dC (.int 3)) (dCons (dVar 6) (dCons (dVar 7) dNil)))) dNil))) (dCons (dTup (dCons (dVar 4) (dCons (dTup (dCons (dVar 5) (dCons (dVar 6) (dCons (dOp dPlus (dSl (dVar 7) dNoPart (dPart (dUn (dU fun i => .int (-i)) (dC (.int 1))))) (dLst (dCons (dOp dPlus (dCall 1 f_58 (dCons (dVar 5) dNil)) (dC (.int 1))) dNil))) dNil)))) dNil))) (dCons (dTup (dCons (dVar 4) dNil)) (dCons (dC .non) (dCons (dC (.int 5)) (dCons (dTup (dCons (dVar 4) (dCons (dC .non) dNil))) dNil)))))))) v_19)))
def v_15 : DS := (dSeq (dForR [false, false, false, false, true, false, false, false, false, false, false, false, false, false, false, false, false, false, false, false, false, false, false, false, false, false, false, false, false, false] (dRng1 (dCons (dVar 4) dNil)) (dgName 20) (dSeq (dSet 22 [false, false, false, false, false, false, false, false, false, false, false, false, false, false, true, false, false, false, false, false, true, false, false, false, false, false, false, false, false, false] (dCall 2 f_67 (dCons (dVar 14) (dCons (dVar 20) dNil)))) (dIfS [false, false, false, false, false, false, false, false, false, false, false, false, false, false, true, false, false, true, false, false, true, false, true, false, false, false, false, false, false, false] (dNot (dTest (dCall 2 fSame (dCons (dLst (dCons (dCall 2 f_35 (dCons (dVar 17) (dCons (dVar 20) dNil))) (dCons (dCallK 2 0 2 [1, 0] f_35 dNil (dCons (dVar 20) (dCons (dCall 1 fCopied (dCons (dVar 14) dNil)) dNil))) dNil))) (dCons (dLst (dCons (dVar 22) (dCons (dVar 22) dNil))) dNil))))) (dRet [false, false, false, false, false, false, false, false, false, false, false, false, false, false, false, false, false, false, false, false, false, false, false, false, false, false, false, false, false, false] (dC (.bl false))) dNext))) v_16)
def v_14 : DS := (dSeq (dIfS [false, true, false, false, false, false, false, false, false, false, false, false, false, false, true, false, false, true, false, true, false, true, false, false, false, false, false, false, false, false] (dOr (dNot (dTest (N4.dTw 5 1 (dVar 21) [17] [14] (dCall 1 f_41 (dCons (dVar 0) dNil)) (dCallK 1 0 1 [0] f_41 dNil (dCons (dCall 1 fCopied (dCons (dVar 0) dNil)) dNil))))) (dNot (dTest (N4.dTw 5 1 (dVar 19) [17] [14] (dCall 1 f_43 (dCons (dVar 0) dNil)) (dCallK 1 0 1 [0] f_43 dNil (dCons (dCall 1 fCopied (dCons (dVar 0) dNil)) dNil)))))) (dRet [false, false, false, false, false, false, false, false, false, false, false, false, false, false, false, false, false, false, false, false, false, false, false, false, false, false, false, false, false, false] (dC (.bl false))) dNext) v_15)
def v_12 : DS := (dSeq (dPar3 18 19 20 [false, false, false, false, false, false, false, false, false, false, false, false, false, false, true, false, false, true, false, false, false, false, false, false, false, false, false, false, false, false] (dCons (dCall 1 fCopied (dCons (dVar 17) dNil)) (dCons (dCall 1 f_69 (dCons (dVar 14) dNil)) (dCons (dCall 1 f_70 (dCons (dVar 14) dNil)) dNil)))) (dSeq (dSet 21 [false, false, false, false, false, false, false, false, false, false, false, false, false, false, true, false, false, false, false, false, true, false, false, false, false, false, false, false, false, false] (dIf (dTest (dIsN (dVar 20))) (dTup (dCons (dC (.str "none")) dNil)) (dTup (dCons (dC (.str "run")) (dCons (dVar 20) (dCons (dOp dIx (dCall 2 f_67 (dCons (dVar 14) (dCons (dVar 20) dNil))) (dC (.int 0))) dNil)))))) v_14))
def v_10 : DS := (dSeq (dSet 14 [false, false, false, false, true, true, true, true, false, false, false, false, false, false, false, false, false, false, false, false, false, false, false, false, false, false, false, false, false, false] (dTup (dCons (dVar 4) (dCons (dTup (dCons (dVar 5) (dCons (dVar 6) (dCons (dVar 7) dNil)))) dNil)))) (dSeq (dSet 17 [false, true, false, false, false, false, false, false, false, false, false, false, false, false, true, false, false, false, false, false, false, false, false, false, false, false, false, false, false, false] (dCall 2 fLoose (dCons (dVar 1) (dCons (dVar 14) dNil)))) v_12))
def v_9 : DS := (dSeq (dForR [false, true, false, false, false, false, false, false, false, false, false, false, false, false, false, false, false, false, false, false, false, false, false, false, false, false, false, false, false, false] (dRng1 (dCons (dCall 2 fDraw (dCons (dVar 1) (dCons (dC (.int 5)) dNil))) dNil)) (dgName 15) (dSeq (dSet 16 [false, true, false, false, true, false, false, false, true, false, false, false, false, false, false, false, false, false, false, false, false, false, false, false, false, false, false, false, false, false] (dOp dPlus (dOp dTimes (dCall 2 fDraw (dCons (dVar 1) (dCons (dVar 4) dNil))) (dVar 8)) (dCall 2 f_47 (dCons (dVar 1) (dCons (dLst (dCons (dC (.int 0)) (dCons (dC (.int 1)) (dCons (dC (.int 2)) (dCons (dC (.int 3)) (dCons (dC (.int 4)) (dCons (dOp (dI0 fun i j => .int (i - j)) (dVar 8) (dC (.int 1))) (dCons (dCall 2 fDraw (dCons (dVar 1) (dCons (dVar 8) dNil))) dNil)))))))) dNil))))) (dSub 7 [false, true, false, false, false, true, false, true, false, false, false, false, false, false, false, false, true, false, false, false, false, false, false, false, false, false, false, false, false, false] (dCall 2 f_47 (dCons (dVar 1) (dCons (dLst (dCons (dC (.int 0)) (dCons (dC (.int 1)) (dCons (dCall 1 f_56 (dCons (dVar 5) dNil)) (dCons (dCall 1 f_58 (dCons (dVar 5) dNil)) (dCons (dOp dIx (dVar 7) (dVar 16)) dNil)))))) dNil))) (dVar 16)))) v_10)
def v_6 : DS := (dSeq (dSet 13 [false, true, false, true, false, false, false, false, false, false, false, false, true, false, false, false, false, false, false, false, false, false, false, false, false, false, false, false, false, false] (dLc (dItems (dOp dIx (dCall 3 f_73 (dCons (dVar 1) (dCons (dVar 3) (dCons (dC (.int 7)) dNil)))) (dC (.int 1)))) (dgName 12) (dTest (dOp dEq (dOp dIx (dVar 12) (dC (.int 0))) (dC (.str "done")))) (dVar 12) [12])) (dSeq (dSet 14 [false, false, false, true, false, false, false, false, false, false, false, false, false, true, false, false, false, false, false, false, false, false, false, false, false, false, false, false, false, false] (dIf (dTest (dOp dNe (dVar 13) (dLst dNil))) (dOp dIx (dOp dIx (dVar 13) (dUn (dU fun i => .int (-i)) (dC (.int 1)))) (dC (.int 2))) (dVar 3))) (dSeq (dSet 7 [false, false, false, false, false, false, false, false, false, false, false, false, false, false, true, false, false, false, false, false, false, false, false, false, false, false, false, false, false, false] (dCB dList (dCons (dOp dIx (dOp dIx (dVar 14) (dC (.int 1))) (dC (.int 2))) dNil))) v_9)))
def v_5 : DS := (dSeq (dIfS [false, true, false, true, true, true, true, false, false, true, true, true, false, false, false, false, false, false, false, false, false, false, false, false, false, false, false, false, false, false] (dNot (dTest (N4.dTw 5 1 (dVar 3) [5, 6, 10, 4, 11] [4, 10, 6, 5, 9] (dCall 5 f_36 (dCons (dVar 0) (dCons (dVar 1) (dCons (dVar 2) (dCons (dVar 3) (dCons (dVar 4) dNil)))))) (dCallK 5 0 5 [4, 3, 2, 1, 0] f_36 dNil (dCons (dCB dList (dCons (dVar 4) dNil)) (dCons (dVar 0) (dCons (dVar 1) (dCons (dVar 2) (dCons (dVar 3) dNil))))))))) (dRet [false, false, false, false, false, false, false, false, false, false, false, false, false, false, false, false, false, false, false, false, false, false, false, false, false, false, false, false, false, false] (dC (.bl false))) dNext) v_6)
def v_2 : DS := (dSeq (dSet 8 [false, false, false, false, true, false, false, true, false, false, false, false, false, false, false, false, false, false, false, false, false, false, false, false, false, false, false, false, false, false] (dOp (dI CDiv fun i j => .int (i / j)) (dCB dLen (dCons (dVar 7) dNil)) (dVar 4))) (dSeq (dSet 9 [false, false, false, true, false, false, false, false, false, false, false, false, false, false, false, false, false, false, false, false, false, false, false, false, false, false, false, false, false, false] (dCall 2 f_67 (dCons (dVar 3) (dCons (dC (.int 0)) dNil)))) (dSeq (dAsg [false, true, false, false, false, false, true, false, true, true, false, false, false, false, false, false, false, false, false, false, false, false, false, false, false, false, false, false, false, false] (dTup (dCons (dOp (dI CDiv fun i j => .int (i / j)) (dVar 8) (dVar 6)) (dCons (dCall 2 fLoose (dCons (dVar 1) (dCons (dVar 9) dNil))) dNil))) (dgSeq 2 (dgCons (dgName 10) (dgCons (dgName 11) dgNil)))) v_5)))
def v_0 : DS := (dSeq (dSet 3 [false, true, false, false, false, false, false, false, false, false, false, false, false, false, false, false, false, false, false, false, false, false, false, false, false, false, false, false, false, false] (dCall 1 f_74 (dCons (dVar 1) dNil))) (dSeq (dAsg [false, false, false, true, false, false, false, false, false, false, false, false, false, false, false, false, false, false, false, false, false, false, false, false, false, false, false, false, false, false] (dVar 3) (dgSeq 2 (dgCons (dgName 4) (dgCons (dgSeq 3 (dgCons (dgName 5) (dgCons (dgName 6) (dgCons (dgName 7) dgNil)))) dgNil)))) v_2))
theorem v0_eq : (dSeq (dSet 3 [false, true, false, false, false, false, false, false, false, false, false, false, false, false, false, false, false, false, false, false, false, false, false, false, false, false, false, false, false, false] (dCall 1 f_74 (dCons (dVar 1) dNil))) (dSeq (dAsg [false, false, false, true, false, false, false, false, false, false, false, false, false, false, false, false, false, false, false, false, false, false, false, false, false, false, false, false, false, false] (dVar 3) (dgSeq 2 (dgCons (dgName 4) (dgCons (dgSeq 3 (dgCons (dgName 5) (dgCons (dgName 6) (dgCons (dgName 7) dgNil)))) dgNil)))) (dSeq (dSet 8 [false, false, false, false, true, false, false, true, false, false, false, false, false, false, false, false, false, false, false, false, false, false, false, false, false, false, false, false, false, false] (dOp (dI CDiv fun i j => .int (i / j)) (dCB dLen (dCons (dVar 7) dNil)) (dVar 4))) (dSeq (dSet 9 [false, false, false, true, false, false, false, false, false, false, false, false, false, false, false, false, false, false, false, false, false, false, false, false, false, false, false, false, false, false] (dCall 2 f_67 (dCons (dVar 3) (dCons (dC (.int 0)) dNil)))) (dSeq (dAsg [false, true, false, false, false, false, true, false, true, true, false, false, false, false, false, false, false, false, false, false, false, false, false, false, false, false, false, false, false, false] (dTup (dCons (dOp (dI CDiv fun i j => .int (i / j)) (dVar 8) (dVar 6)) (dCons (dCall 2 fLoose (dCons (dVar 1) (dCons (dVar 9) dNil))) dNil))) (dgSeq 2 (dgCons (dgName 10) (dgCons (dgName 11) dgNil)))) (dSeq (dIfS [false, true, false, true, true, true, true, false, false, true, true, true, false, false, false, false, false, false, false, false, false, false, false, false, false, false, false, false, false, false] (dNot (dTest (N4.dTw 5 1 (dVar 3) [5, 6, 10, 4, 11] [4, 10, 6, 5, 9] (dCall 5 f_36 (dCons (dVar 0) (dCons (dVar 1) (dCons (dVar 2) (dCons (dVar 3) (dCons (dVar 4) dNil)))))) (dCallK 5 0 5 [4, 3, 2, 1, 0] f_36 dNil (dCons (dCB dList (dCons (dVar 4) dNil)) (dCons (dVar 0) (dCons (dVar 1) (dCons (dVar 2) (dCons (dVar 3) dNil))))))))) (dRet [false, false, false, false, false, false, false, false, false, false, false, false, false, false, false, false, false, false, false, false, false, false, false, false, false, false, false, false, false, false] (dC (.bl false))) dNext) (dSeq (dSet 13 [false, true, false, true, false, false, false, false, false, false, false, false, true, false, false, false, false, false, false, false, false, false, false, false, false, false, false, false, false, false] (dLc (dItems (dOp dIx (dCall 3 f_73 (dCons (dVar 1) (dCons (dVar 3) (dCons (dC (.int 7)) dNil)))) (dC (.int 1)))) (dgName 12) (dTest (dOp dEq (dOp dIx (dVar 12) (dC (.int 0))) (dC (.str "done")))) (dVar 12) [12])) (dSeq (dSet 14 [false, false, false, true, false, false, false, false, false, false, false, false, false, true, false, false, false, false, false, false, false, false, false, false, false, false, false, false, false, false] (dIf (dTest (dOp dNe (dVar 13) (dLst dNil))) (dOp dIx (dOp dIx (dVar 13) (dUn (dU fun i => .int (-i)) (dC (.int 1)))) (dC (.int 2))) (dVar 3))) (dSeq (dSet 7 [false, false, false, false, false, false, false, false, false, false, false, false, false, false, true, false, false, false, false, false, false, false, false, false, false, false, false, false, false, false] (dCB dList (dCons (dOp dIx (dOp dIx (dVar 14) (dC (.int 1))) (dC (.int 2))) dNil))) (dSeq (dForR [false, true, false, false, false, false, false, false, false, false, false, false, false, false, false, false, false, false, false, false, false, false, false, false, false, false, false, false, false, false] (dRng1 (dCons (dCall 2 fDraw (dCons (dVar 1) (dCons (dC (.int 5)) dNil))) dNil)) (dgName 15) (dSeq (dSet 16 [false, true, false, false, true, false, false, false, true, false, false, false, false, false, false, false, false, false, false, false, false, false, false, false, false, false, false, false, false, false] (dOp dPlus (dOp dTimes (dCall 2 fDraw (dCons (dVar 1) (dCons (dVar 4) dNil))) (dVar 8)) (dCall 2 f_47 (dCons (dVar 1) (dCons (dLst (dCons (dC (.int 0)) (dCons (dC (.int 1)) (dCons (dC (.int 2)) (dCons (dC (.int 3)) (dCons (dC (.int 4)) (dCons (dOp (dI0 fun i j => .int (i - j)) (dVar 8) (dC (.int 1))) (dCons (dCall 2 fDraw (dCons (dVar 1) (dCons (dVar 8) dNil))) dNil)))))))) dNil))))) (dSub 7 [false, true, false, false, false, true, false, true, false, false, false, false, false, false, false, false, true, false, false, false, false, false, false, false, false, false, false, false, false, false] (dCall 2 f_47 (dCons (dVar 1) (dCons (dLst (dCons (dC (.int 0)) (dCons (dC (.int 1)) (dCons (dCall 1 f_56 (dCons (dVar 5) dNil)) (dCons (dCall 1 f_58 (dCons (dVar 5) dNil)) (dCons (dOp dIx (dVar 7) (dVar 16)) dNil)))))) dNil))) (dVar 16)))) (dSeq (dSet 14 [false, false, false, false, true, true, true, true, false, false, false, false, false, false, false, false, false, false, false, false, false, false, false, false, false, false, false, false, false, false] (dTup (dCons (dVar 4) (dCons (dTup (dCons (dVar 5) (dCons (dVar 6) (dCons (dVar 7) dNil)))) dNil)))) (dSeq (dSet 17 [false, true, false, false, false, false, false, false, false, false, false, false, false, false, true, false, false, false, false, false, false, false, false, false, false, false, false, false, false, false] (dCall 2 fLoose (dCons (dVar 1) (dCons (dVar 14) dNil)))) (dSeq (dPar3 18 19 20 [false, false, false, false, false, false, false, false, false, false, false, false, false, false, true, false, false, true, false, false, false, false, false, false, false, false, false, false, false, false] (dCons (dCall 1 fCopied (dCons (dVar 17) dNil)) (dCons (dCall 1 f_69 (dCons (dVar 14) dNil)) (dCons (dCall 1 f_70 (dCons (dVar 14) dNil)) dNil)))) (dSeq (dSet 21 [false, false, false, false, false, false, false, false, false, false, false, false, false, false, true, false, false, false, false, false, true, false, false, false, false, false, false, false, false, false] (dIf (dTest (dIsN (dVar 20))) (dTup (dCons (dC (.str "none")) dNil)) (dTup (dCons (dC (.str "run")) (dCons (dVar 20) (dCons (dOp dIx (dCall 2 f_67 (dCons (dVar 14) (dCons (dVar 20) dNil))) (dC (.int 0))) dNil)))))) (dSeq (dIfS [false, true, false, false, false, false, false, false, false, false, false, false, false, false, true, false, false, true, false, true, false, true, false, false, false, false, false, false, false, false] (dOr (dNot (dTest (N4.dTw 5 1 (dVar 21) [17] [14] (dCall 1 f_41 (dCons (dVar 0) dNil)) (dCallK 1 0 1 [0] f_41 dNil (dCons (dCall 1 fCopied (dCons (dVar 0) dNil)) dNil))))) (dNot (dTest (N4.dTw 5 1 (dVar 19) [17] [14] (dCall 1 f_43 (dCons (dVar 0) dNil)) (dCallK 1 0 1 [0] f_43 dNil (dCons (dCall 1 fCopied (dCons (dVar 0) dNil)) dNil)))))) (dRet [false, false, false, false, false, false, false, false, false, false, false, false, false, false, false, false, false, false, false, false, false, false, false, false, false, false, false, false, false, false] (dC (.bl false))) dNext) (dSeq (dForR [false, false, false, false, true, false, false, false, false, false, false, false, false, false, false, false, false, false, false, false, false, false, false, false, false, false, false, false, false, false] (dRng1 (dCons (dVar 4) dNil)) (dgName 20) (dSeq (dSet 22 [false, false, false, false, false, false, false, false, false, false, false, false, false, false, true, false, false, false, false, false, true, false, false, false, false, false, false, false, false, false] (dCall 2 f_67 (dCons (dVar 14) (dCons (dVar 20) dNil)))) (dIfS [false, false, false, false, false, false, false, false, false, false, false, false, false, false, true, false, false, true, false, false, true, false, true, false, false, false, false, false, false, false] (dNot (dTest (dCall 2 fSame (dCons (dLst (dCons (dCall 2 f_35 (dCons (dVar 17) (dCons (dVar 20) dNil))) (dCons (dCallK 2 0 2 [1, 0] f_35 dNil (dCons (dVar 20) (dCons (dCall 1 fCopied (dCons (dVar 14) dNil)) dNil))) dNil))) (dCons (dLst (dCons (dVar 22) (dCons (dVar 22) dNil))) dNil))))) (dRet [false, false, false, false, false, false, false, false, false, false, false, false, false, false, false, false, false, false, false, false, false, false, false, false, false, false, false, false, false, false] (dC (.bl false))) dNext))) (dSeq (dSet 23 [false, true, false, false, false, false, false, true, false, false, false, false, false, false, false, false, false, false, false, false, false, false, false, false, false, false, false, false, false, false] (dSl (dVar 7) dNoPart (dPart (dCall 2 fDraw (dCons (dVar 1) (dCons (dCB dLen (dCons (dVar 7) dNil)) dNil)))))) (dSeq (dSet 24 [false, false, false, false, true, true, true, true, false, false, false, false, false, false, true, false, false, true, false, false, false, false, false, true, false, false, false, false, false, false] (dLst (dCons (dVar 17) (dCons (dTup (dCons (dVar 4) (dCons (dTup (dCons (dVar 5) (dCons (dVar 6) (dCons (dVar 23) dNil)))) dNil))) (dCons (dTup (dCons (dOp dPlus (dVar 4) (dC (.int 1))) (dCons (dOp dIx (dVar 14) (dC (.int 1))) dNil))) (dCons (dTup (dCons (dC (.int 1)) (dCons (dOp dIx (dVar 14) (dC (.int 1))) dNil))) (dCons (dTup (dCons (dC (.bl true)) (dCons (dOp dIx (dVar 14) (dC (.int 1))) dNil))) (dCons (dTup (dCons (dVar 4) (dCons (dTup (dCons (dVar 5) (dCons (dC (.int 2)) (dCons (dVar 7) dNil)))) dNil))) dNil)))))))) (dSeq (dExt 24 [false, false, false, false, true, true, true, true, false, false, false, false, false, false, false, false, false, false, false, false, false, false, false, false, false, false, false, false, false, false] (dLst (dCons (dTup (dCons (dVar 4) (dCons (dTup (dCons (dC (.int 3)) (dCons (dVar 6) (dCons (dVar 7) dNil)))) dNil))) (dCons (dTup (dCons (dVar 4) (dCons (dTup (dCons (dVar 5) (dCons (dVar 6) (dCons (dOp dPlus (dSl (dVar 7) dNoPart (dPart (dUn (dU fun i => .int (-i)) (dC (.int 1))))) (dLst (dCons (dOp dPlus (dCall 1 f_58 (dCons (dVar 5) dNil)) (dC (.int 1))) dNil))) dNil)))) dNil))) (dCons (dTup (dCons (dVar 4) dNil)) (dCons (dC .non) (dCons (dC (.int 5)) (dCons (dTup (dCons (dVar 4) (dCons (dC .non) dNil))) dNil)))))))) (dSeq (dFor [false, true, false, false, false, false, false, false, false, false, false, false, false, false, false, false, false, false, false, false, false, false, false, false, true, false, false, false, false, false] (dItems (dCall 2 fMixed (dCons (dVar 1) (dCons (dVar 24) dNil)))) (dgName 25) (dSeq (dSet 26 [false, false, false, false, false, false, false, false, false, false, false, false, false, false, false, false, false, false, false, false, false, false, false, false, false, true, false, false, false, false] (dAndV (dNotN (dVar 25)) (dAndV (dIsLT (dVar 25)) (dAndV (dOp dEq (dCB dLen (dCons (dVar 25) dNil)) (dC (.int 2))) (dAndV (dCall 2 f_54 (dCons (dOp dIx (dVar 25) (dC (.int 0))) (dCons (dC .non) dNil))) (dAndV (dOp (dI0 fun i j => .bl (decide (j < i))) (dOp dIx (dVar 25) (dC (.int 0))) (dC (.int 1))) (dNotN (dOp dIx (dVar 25) (dC (.int 1)))))))))) (dSeq (dIfS [false, false, false, false, false, false, false, false, false, false, false, false, false, false, false, false, false, false, false, false, false, false, false, false, false, false, true, false, false, false] (dTruth (dVar 26)) (dSeq (dAsg [false, false, false, false, false, false, false, false, false, false, false, false, false, false, false, false, false, false, false, false, false, false, false, false, false, true, false, false, false, false] (dOp dIx (dVar 25) (dC (.int 1))) (dgSeq 3 (dgCons (dgName 27) (dgCons (dgName 28) (dgCons (dgName 22) dgNil))))) (dSet 26 [false, false, false, false, false, false, false, false, false, false, false, false, false, false, false, false, false, false, false, false, false, false, true, false, false, true, false, true, true, true] (dAndV (dOp (dI0 fun i j => .bl (decide (j < i))) (dVar 27) (dC (.int 3))) (dAndV (dOp (dI0 fun i j => .bl (decide (j < i))) (dVar 28) (dC (.int 2))) (dAndV (dCB dAll (dCons (dLc (dItems (dVar 22)) (dgName 29) dYes (dOp (dI0 fun i j => .bl (decide (i ≤ j))) (dVar 29) (dCall 1 f_58 (dCons (dVar 27) dNil))) [29]) dNil)) (dAndV (dOp (dI0 fun i j => .bl (decide (j ≤ i))) (dCB dLen (dCons (dVar 22) dNil)) (dOp dTimes (dOp dTimes (dC (.int 2)) (dOp dIx (dVar 25) (dC (.int 0)))) (dVar 28))) (dOp dEq (dOp (dI (fun _ j => 0 < j) fun i j => .int (i % j)) (dCB dInt (dCons (dCB dLen (dCons (dVar 22) dNil)) dNil)) (dOp dTimes (dOp dIx (dVar 25) (dC (.int 0))) (dVar 28))) (dC (.int 0))))))))) dNext) (dIfS [false, false, false, false, false, false, false, false, false, false, false, false, false, false, false, false, false, false, false, false, false, false, false, false, false, true, true, false, false, false] (dNot (dTest (dCall 2 fSame (dCons (dLst (dCons (dCall 1 f_30 (dCons (dCall 1 fCopied (dCons (dVar 25) dNil)) dNil)) (dCons (dCallK 1 0 1 [0] f_30 dNil (dCons (dCall 1 fCopied (dCons (dVar 25) dNil)) dNil)) dNil))) (dCons (dLst (dCons (dVar 26) (dCons (dVar 26) dNil))) dNil))))) (dRet [false, false, false, false, false, false, false, false, false, false, false, false, false, false, false, false, false, false, false, false, false, false, false, false, false, false, false, false, false, false] (dC (.bl false))) dNext)))) (dIfS [false, false, false, false, false, false, false, false, false, false, false, false, false, false, false, false, false, true, true, false, false, false, false, false, false, false, false, false, false, false] (dNot (dTest (dCall 2 fSame (dCons (dVar 17) (dCons (dVar 18) dNil))))) (dRet [false, false, false, false, false, false, false, false, false, false, false, false, false, false, false, false, false, false, false, false, false, false, false, false, false, false, false, false, false, false] (dC (.bl false))) dNext))))))))))))))))))))) = v_0 := rfl

section
variable {n : Int} {K : DEnds} {x0 x1 x2 x3 x4 x5 x6 x7 x8 x9 x10 x11 x12 x13 x14 x15 x16 x17 x18 x19 x20 x21 x22 x23 x24 x25 x26 x27 x28 x29 : Option Dat}
theorem same_ok {a : Dat} {Q : Dat → Int → Prop} (h1 : dpD a ≤ 6) (h2 : fitD 1000 a = true) (k : Q (.bl true) n) : fSame [a, a] n Q := ⟨a, rfl, ⟨h1, h2⟩, k⟩
theorem w_v20 {h wD : Dat} (hs : h.sh = h) (hw : wD.sh = h) (d1 : dpD h ≤ 6) (d2 : fitD 1000 h = true) (k : ∀ x17 x18, K.nx [x0, x1, x2, x3, x4, x5, x6, x7, x8, x9, x10, x11, x12, x13, x14, x15, x16, x17, x18, x19, x20, x21, x22, x23, x24, x25, x26, x27, x28, x29] n) :
    v_20 K [x0, x1, x2, x3, x4, x5, x6, x7, x8, x9, x10, x11, x12, x13, x14, x15, x16, some h, some wD, x19, x20, x21, x22, x23, x24, x25, x26, x27, x28, x29] n := by
  unfold v_20
  simp! [hs, hw]
  refine same_ok d1 d2 ?_
  simp!
  exact k _ _
end
end M4
set_option Elab.async false
set_option linter.all false
set_option maxRecDepth 100000
set_option maxHeartbeats 4000000
/-! the law: what is a ring -/
namespace M4
open PySem L2 DL
open N4 (top fDraw fMixed fSame dpD dpDs fitD fitDs)
def t_c : DS := (dIfS [false, false, false, false, false, false, false, false, false, false, false, false, false, false, false, false, false, false, false, false, false, false, false, false, false, true, true, false, false, false] (dNot (dTest (dCall 2 fSame (dCons (dLst (dCons (dCall 1 f_30 (dCons (dCall 1 fCopied (dCons (dVar 25) dNil)) dNil)) (dCons (dCallK 1 0 1 [0] f_30 dNil (dCons (dCall 1 fCopied (dCons (dVar 25) dNil)) dNil)) dNil))) (dCons (dLst (dCons (dVar 26) (dCons (dVar 26) dNil))) dNil))))) (dRet [false, false, false, false, false, false, false, false, false, false, false, false, false, false, false, false, false, false, false, false, false, false, false, false, false, false, false, false, false, false] (dC (.bl false))) dNext)
def t_b : DS := (dSeq (dIfS [false, false, false, false, false, false, false, false, false, false, false, false, false, false, false, false, false, false, false, false, false, false, false, false, false, false, true, false, false, false] (dTruth (dVar 26)) (dSeq (dAsg [false, false, false, false, false, false, false, false, false, false, false, false, false, false, false, false, false, false, false, false, false, false, false, false, false, true, false, false, false, false] (dOp dIx (dVar 25) (dC (.int 1))) (dgSeq 3 (dgCons (dgName 27) (dgCons (dgName 28) (dgCons (dgName 22) dgNil))))) (dSet 26 [false, false, false, false, false, false, false, false, false, false, false, false, false, false, false, false, false, false, false, false, false, false, true, false, false, true, false, true, true, true] (dAndV (dOp (dI0 fun i j => .bl (decide (j < i))) (dVar 27) (dC (.int 3))) (dAndV (dOp (dI0 fun i j => .bl (decide (j < i))) (dVar 28) (dC (.int 2))) (dAndV (dCB dAll (dCons (dLc (dItems (dVar 22)) (dgName 29) dYes (dOp (dI0 fun i j => .bl (decide (i ≤ j))) (dVar 29) (dCall 1 f_58 (dCons (dVar 27) dNil))) [29]) dNil)) (dAndV (dOp (dI0 fun i j => .bl (decide (j ≤ i))) (dCB dLen (dCons (dVar 22) dNil)) (dOp dTimes (dOp dTimes (dC (.int 2)) (dOp dIx (dVar 25) (dC (.int 0)))) (dVar 28))) (dOp dEq (dOp (dI (fun _ j => 0 < j) fun i j => .int (i % j)) (dCB dInt (dCons (dCB dLen (dCons (dVar 22) dNil)) dNil)) (dOp dTimes (dOp dIx (dVar 25) (dC (.int 0))) (dVar 28))) (dC (.int 0))))))))) dNext) t_c)
def t_a : DS := (dSeq (dSet 26 [false, false, false, false, false, false, false, false, false, false, false, false, false, false, false, false, false, false, false, false, false, false, false, false, false, true, false, false, false, false] (dAndV (dNotN (dVar 25)) (dAndV (dIsLT (dVar 25)) (dAndV (dOp dEq (dCB dLen (dCons (dVar 25) dNil)) (dC (.int 2))) (dAndV (dCall 2 f_54 (dCons (dOp dIx (dVar 25) (dC (.int 0))) (dCons (dC .non) dNil))) (dAndV (dOp (dI0 fun i j => .bl (decide (j < i))) (dOp dIx (dVar 25) (dC (.int 0))) (dC (.int 1))) (dNotN (dOp dIx (dVar 25) (dC (.int 1)))))))))) t_b)
theorem ta_eq : (dSeq (dSet 26 [false, false, false, false, false, false, false, false, false, false, false, false, false, false, false, false, false, false, false, false, false, false, false, false, false, true, false, false, false, false] (dAndV (dNotN (dVar 25)) (dAndV (dIsLT (dVar 25)) (dAndV (dOp dEq (dCB dLen (dCons (dVar 25) dNil)) (dC (.int 2))) (dAndV (dCall 2 f_54 (dCons (dOp dIx (dVar 25) (dC (.int 0))) (dCons (dC .non) dNil))) (dAndV (dOp (dI0 fun i j => .bl (decide (j < i))) (dOp dIx (dVar 25) (dC (.int 0))) (dC (.int 1))) (dNotN (dOp dIx (dVar 25) (dC (.int 1)))))))))) (dSeq (dIfS [false, false, false, false, false, false, false, false, false, false, false, false, false, false, false, false, false, false, false, false, false, false, false, false, false, false, true, false, false, false] (dTruth (dVar 26)) (dSeq (dAsg [false, false, false, false, false, false, false, false, false, false, false, false, false, false, false, false, false, false, false, false, false, false, false, false, false, true, false, false, false, false] (dOp dIx (dVar 25) (dC (.int 1))) (dgSeq 3 (dgCons (dgName 27) (dgCons (dgName 28) (dgCons (dgName 22) dgNil))))) (dSet 26 [false, false, false, false, false, false, false, false, false, false, false, false, false, false, false, false, false, false, false, false, false, false, true, false, false, true, false, true, true, true] (dAndV (dOp (dI0 fun i j => .bl (decide (j < i))) (dVar 27) (dC (.int 3))) (dAndV (dOp (dI0 fun i j => .bl (decide (j < i))) (dVar 28) (dC (.int 2))) (dAndV (dCB dAll (dCons (dLc (dItems (dVar 22)) (dgName 29) dYes (dOp (dI0 fun i j => .bl (decide (i ≤ j))) (dVar 29) (dCall 1 f_58 (dCons (dVar 27) dNil))) [29]) dNil)) (dAndV (dOp (dI0 fun i j => .bl (decide (j ≤ i))) (dCB dLen (dCons (dVar 22) dNil)) (dOp dTimes (dOp dTimes (dC (.int 2)) (dOp dIx (dVar 25) (dC (.int 0)))) (dVar 28))) (dOp dEq (dOp (dI (fun _ j => 0 < j) fun i j => .int (i % j)) (dCB dInt (dCons (dCB dLen (dCons (dVar 22) dNil)) dNil)) (dOp dTimes (dOp dIx (dVar 25) (dC (.int 0))) (dVar 28))) (dC (.int 0))))))))) dNext) (dIfS [false, false, false, false, false, false, false, false, false, false, false, false, false, false, false, false, false, false, false, false, false, false, false, false, false, true, true, false, false, false] (dNot (dTest (dCall 2 fSame (dCons (dLst (dCons (dCall 1 f_30 (dCons (dCall 1 fCopied (dCons (dVar 25) dNil)) dNil)) (dCons (dCallK 1 0 1 [0] f_30 dNil (dCons (dCall 1 fCopied (dCons (dVar 25) dNil)) dNil)) dNil))) (dCons (dLst (dCons (dVar 26) (dCons (dVar 26) dNil))) dNil))))) (dRet [false, false, false, false, false, false, false, false, false, false, false, false, false, false, false, false, false, false, false, false, false, false, false, false, false, false, false, false, false, false] (dC (.bl false))) dNext))) = t_a := rfl

section
variable {n : Int} {Q : Dat → Int → Prop} {K : DEnds} {x0 x1 x2 x3 x4 x5 x6 x7 x8 x9 x10 x11 x12 x13 x14 x15 x16 x17 x18 x19 x20 x21 x22 x23 x24 x25 x26 x27 x28 x29 : Option Dat}
theorem cop_ok {d : Dat} (h1 : dpD d ≤ 5) (h2 : fitD 1000 d = true) (k : ∀ d', d'.sh = d → Q d' n) : cop 5 [d] n Q := ⟨d, rfl, ⟨h1, h2⟩, k⟩
theorem w_tc {T : Dat} {rb : Bool} (h1 : dpD T.sh ≤ 5) (h2 : fitD 1000 T.sh = true) (hr : ∀ (Q : Dat → Int → Prop), Q (.bl rb) n → f_30 [T.sh] n Q) (k : ∀ y, K.nx [x0, x1, x2, x3, x4, x5, x6, x7, x8, x9, x10, x11, x12, x13, x14, x15, x16, x17, x18, x19, x20, x21, x22, x23, x24, y, some (.bl rb), x27, x28, x29] n) :
    t_c K [x0, x1, x2, x3, x4, x5, x6, x7, x8, x9, x10, x11, x12, x13, x14, x15, x16, x17, x18, x19, x20, x21, x22, x23, x24, some T, some (.bl rb), x27, x28, x29] n := by
  have tt : T.sh.sh = T.sh := (haveI : TabsOf := ⟨[]⟩; sh_sh T)
  unfold t_c
  simp! [tt]
  refine cop_ok h1 h2 fun d1 e1 => ?_
  simp! [e1, tt]
  refine hr _ ?_
  simp! [tt]
  refine cop_ok h1 h2 fun d2 e2 => ?_
  simp! [e2, tt]
  refine hr _ ?_
  simp!
  refine same_ok (a := .lst [.bl rb, .bl rb]) (by cases rb <;> decide) (by cases rb <;> rfl) ?_
  simp!
  exact k _
/-- a thing that is no ring at all -/
theorem w_tb0 {T : Dat} (h1 : dpD T.sh ≤ 5) (h2 : fitD 1000 T.sh = true) (hr : ∀ (Q : Dat → Int → Prop), Q (.bl false) n → f_30 [T.sh] n Q) (k : ∀ y, K.nx [x0, x1, x2, x3, x4, x5, x6, x7, x8, x9, x10, x11, x12, x13, x14, x15, x16, x17, x18, x19, x20, x21, x22, x23, x24, y, some (.bl false), x27, x28, x29] n) :
    t_b K [x0, x1, x2, x3, x4, x5, x6, x7, x8, x9, x10, x11, x12, x13, x14, x15, x16, x17, x18, x19, x20, x21, x22, x23, x24, some T, some (.bl false), x27, x28, x29] n := by
  unfold t_b
  simp!
  exact w_tc h1 h2 hr k
theorem w_54 {i : Int} {Q : Dat → Int → Prop} (hi : 0 ≤ i) (k : Q (.bl true) n) : f_54 [.int i, .non] n Q := by
  unfold f_54 b_54
  simp!
  rw [if_pos hi]
  exact k
theorem w_tb {T Y Z : Dat} {c w b : Nat} {l : List Int} (hX : Sq T.sh [.int c, Y]) (hY : Sq Y [.int w, .int b, Z]) (hZ : Sq Z (il l)) (hc2 : 2 ≤ c) (hc : c ≤ 1000) (hw : w ≤ 16) (hb : b ≤ 1000) (hl : l.length ≤ 1000) (hp : ∀ x ∈ l, 0 ≤ x) (h1 : dpD T.sh ≤ 5) (h2 : fitD 1000 T.sh = true) (k : ∀ y22 y25 y26 y27 y28 y29, K.nx [x0, x1, x2, x3, x4, x5, x6, x7, x8, x9, x10, x11, x12, x13, x14, x15, x16, x17, x18, x19, x20, x21, y22, x23, x24, y25, y26, y27, y28, y29] n) :
    t_b K [x0, x1, x2, x3, x4, x5, x6, x7, x8, x9, x10, x11, x12, x13, x14, x15, x16, x17, x18, x19, x20, x21, x22, x23, x24, some T, some (.bl true), x27, x28, x29] n := by
  have tt : T.sh.sh = T.sh := (haveI : TabsOf := ⟨[]⟩; sh_sh T)
  have s2 := sq_sh hY (il_sh3 hZ w b)
  have s3 := sq_sh hZ (il_shs l)
  have ix := sq_ix hX
  have iy := sq_ix hY
  have it := sq_items hZ
  have ln := sq_len hZ
  -- the verdict
  have ver : ∀ (rb : Bool) (T' : Dat), T'.sh = T.sh → (rb = true ↔ okR c w b l) → ∀ x22 x27 x28 x29, t_c K [x0, x1, x2, x3, x4, x5, x6, x7, x8, x9, x10, x11, x12, x13, x14, x15, x16, x17, x18, x19, x20, x21, x22, x23, x24, some T', some (.bl rb), x27, x28, x29] n := fun rb T' e h x22 x27 x28 x29 => by
    refine w_tc (by rw [e]; exact h1) (by rw [e]; exact h2) (fun Q q => ?_) fun y => k _ _ _ _ _ _
    rw [e]
    refine w_30 hX hY hZ hl (by omega) (by omega) (fun o => ?_) fun o => ?_
    · rw [h.mpr o] at q; exact q
    · have : rb = false := by
        cases rb with
        | true => exact (o (h.mp rfl)).elim
        | false => rfl
      rw [this] at q; exact q
  have no : ∀ (T' : Dat), T'.sh = T.sh → ¬ okR c w b l → ∀ x22 x27 x28 x29, t_c K [x0, x1, x2, x3, x4, x5, x6, x7, x8, x9, x10, x11, x12, x13, x14, x15, x16, x17, x18, x19, x20, x21, x22, x23, x24, some T', some (.bl false), x27, x28, x29] n := fun T' e h => ver false T' e ⟨(fun z => by cases z), fun z => (h z).elim⟩
  have gs : ∀ (g : DGs) (D : DSt) (R : DSt → Prop), g [.int w, .int b, Z] D R → dgSeq 3 g Y D R := fun g D R h => by
    rcases hY with rfl | rfl <;> exact ⟨rfl, h⟩
  have e1 : (2 : Int) * (c : Int) = ((2 * c : Nat) : Int) := by simp
  have e2 : ((2 * c : Nat) : Int) * (b : Int) = ((2 * c * b : Nat) : Int) := by simp
  have e3 : (c : Int) * (b : Int) = ((c * b : Nat) : Int) := by simp
  -- the words are small enough
  have allw : ∀ (D : DSt) (R : List Dat → Int → Prop), 29 < D.length → (∀ x, (D.set 29 x)[27]? = some (some (.int w))) → (∀ bs : List Bool, bs.all id = (l.all fun x => decide (x ≤ on w)) → R (bs.map Dat.bl) n) → dLcGo (dgName 29) dYes (dOp (dI0 fun i j => Dat.bl (decide (i ≤ j))) (dVar 29) (dCall 1 f_58 (dCons (dVar 27) dNil))) D (il l) n [] R := fun D R hD h27 hR => by
    refine lc_inv (fun q acc m => ∃ (r : List Int) (bs : List Bool), q = il r ∧ acc = bs.map Dat.bl ∧ (bs.all id && r.all fun x => decide (x ≤ on w)) = (l.all fun x => decide (x ≤ on w)) ∧ m = n) ?_ ?_ _ _ _ ⟨l, [], rfl, rfl, by simp, rfl⟩
    · rintro acc m ⟨r, bs, q1, rfl, q3, rfl⟩
      cases r with
      | cons x r => cases q1
      | nil => exact hR bs (by simpa using q3)
    · rintro d q R' hR' acc m ⟨r, bs, q1, rfl, q3, rfl⟩
      cases r with
      | nil => cases q1
      | cons x r =>
        injection q1 with q1 q4
        subst q1
        refine ⟨.int x, List.getElem?_set_self hD, _, h27 _, rfl, ?_⟩
        refine w_58 w (by omega) ?_
        refine hR' _ _ ⟨r, bs ++ [decide (x ≤ on w)], q4, by rw [List.map_append]; rfl, ?_, rfl⟩
        rw [← q3, List.all_append, List.all_cons]
        simp [Bool.and_assoc]
  unfold t_b
  simp! [tt, ix, at2_0, at2_1, s2]
  rcases Bool.eq_false_or_eq_true Y.clos with c1 | c1
  all_goals
    simp! [c1]
    refine gs _ _ _ ?_
    simp! [s3, it, il_shs, tt]
    refine iteP (fun a1 => ?_) fun a1 => no _ (by first | exact tt | rfl) (fun o => a1 (by have := o.2.1.1; omega)) _ _ _ _
    refine iteP (fun a2 => ?_) fun a2 => no _ (by first | exact tt | rfl) (fun o => a2 (by have := o.2.2.1; omega)) _ _ _ _
    rw [il_len]
    refine ⟨szl hl, allw _ _ (by show 29 < 30; decide) (fun _ => rfl) fun bs hbs => ⟨bs, by rw [shs_map, List.map_map]; rfl, ?_⟩⟩
    rw [hbs]
    have wdh : (l.all fun x => decide (x ≤ on w)) = true → wds w l = true := fun a => by
      unfold wds
      rw [List.all_eq_true] at a ⊢
      intro x hx
      have y := hp x hx
      have z := a x hx
      have e : on w = 2 ^ w - 1 := rfl
      simp only [Bool.and_eq_true, decide_eq_true_eq] at z ⊢
      omega
    have wdo : wds w l = true → (l.all fun x => decide (x ≤ on w)) = true := fun a => by
      unfold wds at a
      rw [List.all_eq_true] at a ⊢
      intro x hx
      have z := a x hx
      have e : on w = 2 ^ w - 1 := rfl
      simp only [Bool.and_eq_true, decide_eq_true_eq] at z ⊢
      omega
    refine iteP (fun a3 => ?_) fun a3 => no _ (by first | exact tt | rfl) (fun o => a3 (wdo (by have := o.2.1.2.2.2.1; rw [Int.toNat_natCast] at this; exact this))) _ _ _ _
    simp! [ln, il_len, ix, at2_0, e1, e2, e3]
    have cb : 0 < c * b := Nat.mul_pos (by omega) (by omega)
    have e4 : 2 * (c : Int) * (b : Int) = ((2 * c * b : Nat) : Int) := by simp
    have cbl : 2 * c * b = 2 * (c * b) := Nat.mul_assoc ..
    refine ⟨.inl (by decide), .inr ⟨by omega, by omega⟩, iteP (fun a4 => ?_) fun a4 => no _ (by first | exact tt | rfl) (fun o => a4 (by have := o.2.2.2.1; rw [e4] at this; exact this)) _ _ _ _⟩
    refine ⟨.inr ⟨by omega, by omega⟩, by omega, ver _ _ (by first | exact tt | rfl) ?_ _ _ _ _⟩
    rw [decide_eq_true_eq]
    constructor
    · intro a5
      refine ⟨by omega, ⟨by omega, by omega, by omega, by rw [Int.toNat_natCast]; exact wdh a3, by omega, ?_⟩, by omega, by rw [e4]; exact a4, by rw [e3]; exact a5⟩
      have d1 : (l.length) % (c * b) = 0 := by exact_mod_cast a5
      have d2 : b ∣ l.length := Nat.dvd_trans (Nat.dvd_mul_left b c) (Nat.dvd_of_mod_eq_zero d1)
      exact_mod_cast Nat.mod_eq_zero_of_dvd d2
    · intro o
      have := o.2.2.2.2
      rw [e3] at this
      exact this
end
end M4
set_option Elab.async false
set_option linter.all false
set_option maxRecDepth 100000
set_option maxHeartbeats 4000000
/-! the law: the things -/
namespace M4
open PySem L2 DL
open N4 (top fDraw fMixed fSame dpD dpDs fitD fitDs)
/-- what may be asked for a ring -/
def Th (d : Dat) : Prop := (dpD d ≤ 5 ∧ fitD 1000 d = true ∧ d.sh = d) ∧ ((∃ (c w b : Nat) (Y Z : Dat) (l : List Int), Sq d [.int c, Y] ∧ Sq Y [.int w, .int b, Z] ∧ Sq Z (il l) ∧ c ≤ 1000 ∧ w ≤ 16 ∧ b ≤ 1000 ∧ l.length ≤ 1000 ∧ ∀ x ∈ l, 0 ≤ x) ∨
  (∃ Y, Sq d [.bl true, Y] ∧ Y.sh = Y) ∨ (∃ i : Int, Sq d [.int i]) ∨ d = .non ∨ (∃ i : Int, d = .int i) ∨ ∃ i : Int, 0 ≤ i ∧ Sq d [.int i, .non])
section
variable {n : Int} {Q : Dat → Int → Prop} {K : DEnds} {x0 x1 x2 x3 x4 x5 x6 x7 x8 x9 x10 x11 x12 x13 x14 x15 x16 x17 x18 x19 x20 x21 x22 x23 x24 x25 x26 x27 x28 x29 : Option Dat}
theorem w_ta {T : Dat} (h : Th T.sh) (k : ∀ y22 y25 y26 y27 y28 y29, K.nx [x0, x1, x2, x3, x4, x5, x6, x7, x8, x9, x10, x11, x12, x13, x14, x15, x16, x17, x18, x19, x20, x21, y22, x23, x24, y25, y26, y27, y28, y29] n) :
    t_a K [x0, x1, x2, x3, x4, x5, x6, x7, x8, x9, x10, x11, x12, x13, x14, x15, x16, x17, x18, x19, x20, x21, x22, x23, x24, some T, x26, x27, x28, x29] n := by
  have tt : T.sh.sh = T.sh := (haveI : TabsOf := ⟨[]⟩; sh_sh T)
  obtain ⟨⟨h1, h2, _⟩, h⟩ := h
  have no : (∀ (Q : Dat → Int → Prop), Q (.bl false) n → f_30 [T.sh] n Q) → t_b K [x0, x1, x2, x3, x4, x5, x6, x7, x8, x9, x10, x11, x12, x13, x14, x15, x16, x17, x18, x19, x20, x21, x22, x23, x24, some T, some (.bl false), x27, x28, x29] n := fun hr => w_tb0 h1 h2 hr fun y => k _ _ _ _ _ _
  have at1 : ∀ a : Dat, atI [a] 0 = some a := fun _ => rfl
  unfold t_a
  rcases h with ⟨c, w, b, Y, Z, l, hX, hY, hZ, hc, hw, hb, hl, hp⟩ | ⟨Y, hX, hY⟩ | ⟨i, hX⟩ | hX | ⟨i, hX⟩ | ⟨i, hi, hX⟩
  · have s2 := sq_sh hY (il_sh3 hZ w b)
    have yn := sq_clos hY
    have hX0 := hX
    rcases hX with e | e
    all_goals
      simp! [e, s2, at2_0, at2_1, yn]
      refine w_54 (by omega) ?_
      simp! [e, s2, at2_0, at2_1, yn]
      refine iteP (fun a => ?_) fun a => ?_
      · exact w_tb hX0 hY hZ (by omega) hc hw hb hl hp h1 h2 k
      · exact no fun Q q => x_ring_c1 (by omega) hX0 s2 q
  · have hX0 := hX
    rcases hX with e | e
    all_goals
      simp! [e, hY, at2_0, at2_1]
      unfold f_54 b_54
      simp!
      exact no fun Q q => x_ring_bl hX0 hY q
  · have hX0 := hX
    rcases hX with e | e
    all_goals
      simp! [e]
      exact no fun Q q => x_ring_1 hX0 q
  · simp! [hX]
    exact no fun Q q => by rw [hX]; exact x_ring_non q
  · simp! [hX]
    exact no fun Q q => by rw [hX]; exact x_ring_int i q
  · have hX0 := hX
    rcases hX with e | e
    all_goals
      simp! [e, at2_0, at2_1]
      refine w_54 hi ?_
      simp! [e, at2_0, at2_1]
      exact no fun Q q => x_ring_n hX0 q
theorem w_v19 {h wD : Dat} {ths : List Dat} (hth : ∀ d ∈ ths, Th d) (hl : ths.length ≤ 1000) (h0 : 0 ≤ n) (hn : n + ths.length < 1000000) (hs : h.sh = h) (hw : wD.sh = h) (d1 : dpD h ≤ 6) (d2 : fitD 1000 h = true) {x24' : Dat} (hx : x24'.sh = .lst ths) (k : ∀ x17 x18 x22 x24 x25 x26 x27 x28 x29 n', n ≤ n' → n' ≤ n + ths.length → K.nx [x0, some .strm, x2, x3, x4, x5, x6, x7, x8, x9, x10, x11, x12, x13, x14, x15, x16, x17, x18, x19, x20, x21, x22, x23, x24, x25, x26, x27, x28, x29] n') :
    v_19 K [x0, some .strm, x2, x3, x4, x5, x6, x7, x8, x9, x10, x11, x12, x13, x14, x15, x16, some h, some wD, x19, x20, x21, x22, x23, some x24', x25, x26, x27, x28, x29] n := by
  have sths : shs ths = ths := shs_id fun d hd => (hth d hd).1.2.2
  unfold v_19
  rw [ta_eq]
  simp! [hx, sths]
  refine ⟨ths, rfl, ⟨by omega, hl⟩, fun l' hl' => ?_⟩
  have sl' : shs l' = l' := shs_id fun d hd => (hth d (hl' d hd)).1.2.2
  simp! [sl', hx]
  refine for_inv (fun q D m => (∀ d ∈ q, d ∈ l') ∧ m = n + ths.length ∧ ∃ x22 x25 x26 x27 x28 x29, D = [x0, some .strm, x2, x3, x4, x5, x6, x7, x8, x9, x10, x11, x12, x13, x14, x15, x16, some h, some wD, x19, x20, x21, x22, x23, some (.lst ths), x25, x26, x27, x28, x29]) ?_ ?_ _ _ _ ⟨fun d hd => hd, rfl, _, _, _, _, _, _, rfl⟩
  · rintro D m ⟨_, rfl, x22, x25, x26, x27, x28, x29, rfl⟩
    exact w_v20 hs hw d1 d2 fun x17 x18 => k _ _ _ _ _ _ _ _ _ _ (by omega) (Int.le_refl _)
  · rintro d q nx hN D m ⟨hq, rfl, x22, x25, x26, x27, x28, x29, rfl⟩
    have td := hth d (hl' d (hq d (List.mem_cons_self ..)))
    simp!
    refine w_ta (K := { nx := nx, rt := K.rt, bk := _, ct := nx }) (by rw [td.1.2.2]; exact td) fun y22 y25 y26 y27 y28 y29 => ?_
    exact hN _ _ ⟨fun x hx => hq x (List.mem_cons_of_mem _ hx), rfl, _, _, _, _, _, _, rfl⟩
end
end M4
set_option Elab.async false
set_option linter.all false
set_option maxRecDepth 100000
set_option maxHeartbeats 4000000
/-! the law: the list of things -/
namespace M4
open PySem L2 DL
open N4 (top fDraw fMixed fSame dpD dpDs fitD fitDs)
/-- lists and tuples around a ring -/
def Hd (c w b : Nat) (l : List Int) (h : Dat) : Prop := ∃ Y Z, Sq h [.int c, Y] ∧ Sq Y [.int w, .int b, Z] ∧ Sq Z (il l)
theorem Hd.sh {c w b : Nat} {l : List Int} {h : Dat} (x : Hd c w b l h) : h.sh = h := by
  obtain ⟨Y, Z, hX, hY, hZ⟩ := x
  exact sq_sh hX (show shs [Dat.int c, Y] = [Dat.int c, Y] by show [Dat.int c, Y.sh] = _; rw [sq_sh hY (il_sh3 hZ w b)])
theorem dp_il : ∀ l : List Int, dpDs (il l) = 0
  | [] => rfl
  | x :: l => by rw [il_cons]; unfold dpDs; rw [dp_il l]; rfl
theorem fit_il {k : Nat} : ∀ l : List Int, fitDs k (il l) = true
  | [] => rfl
  | x :: l => by rw [il_cons]; unfold fitDs; rw [fit_il l]; rfl
theorem fit_sq {k m : Nat} {d : Dat} {l : List Dat} (h : Sq d l) (hl : l.length ≤ k) (f : fitDs k l = true) (p : dpDs l ≤ m) : fitD k d = true ∧ dpD d ≤ m + 1 := by
  rcases h with rfl | rfl
  · unfold fitD dpD
    rw [f, decide_eq_true hl]
    exact ⟨rfl, by omega⟩
  · unfold fitD dpD
    rw [f, decide_eq_true hl]
    exact ⟨rfl, by omega⟩
theorem fit_hd {c w b : Int} {l : List Int} {h Y Z : Dat} (hX : Sq h [.int c, Y]) (hY : Sq Y [.int w, .int b, Z]) (hZ : Sq Z (il l)) (hl : l.length ≤ 900) : fitD 900 h = true ∧ fitD 1000 h = true ∧ dpD h ≤ 3 := by
  have z1 := fit_sq (k := 900) (m := 0) hZ (by rw [il_len]; exact hl) (fit_il l) (by rw [dp_il]; exact Nat.le_refl _)
  have z2 := fit_sq (k := 1000) (m := 0) hZ (by rw [il_len]; omega) (fit_il l) (by rw [dp_il]; exact Nat.le_refl _)
  have e : ∀ (k : Nat) (a b : Int) (Z : Dat), fitDs k [.int a, .int b, Z] = fitD k Z := fun k a b Z => by simp [fitDs, fitD]
  have e2 : ∀ (a b : Int) (Z : Dat), dpDs [.int a, .int b, Z] = dpD Z := fun a b Z => by simp [dpDs, dpD]
  have e3 : ∀ (k : Nat) (a : Int) (Z : Dat), fitDs k [.int a, Z] = fitD k Z := fun k a Z => by simp [fitDs, fitD]
  have e4 : ∀ (a : Int) (Z : Dat), dpDs [.int a, Z] = dpD Z := fun a Z => by simp [dpDs, dpD]
  have y1 := fit_sq (k := 900) (m := 1) hY (by show 3 ≤ 900; decide) (by rw [e]; exact z1.1) (by rw [e2]; exact z1.2)
  have y2 := fit_sq (k := 1000) (m := 1) hY (by show 3 ≤ 1000; decide) (by rw [e]; exact z2.1) (by rw [e2]; exact z2.2)
  have w1 := fit_sq (k := 900) (m := 2) hX (by show 2 ≤ 900; decide) (by rw [e3]; exact y1.1) (by rw [e4]; exact y1.2)
  have w2 := fit_sq (k := 1000) (m := 2) hX (by show 2 ≤ 1000; decide) (by rw [e3]; exact y2.1) (by rw [e4]; exact y2.2)
  exact ⟨w1.1, w2.1, w1.2⟩
section
variable {n : Int} {K : DEnds} {x0 x1 x2 x3 x4 x5 x6 x7 x8 x9 x10 x11 x12 x13 x14 x15 x16 x17 x18 x19 x20 x21 x22 x23 x24 x25 x26 x27 x28 x29 : Option Dat}
theorem th_ring {c w b : Nat} {l : List Int} {d Y Z : Dat} (hX : Sq d [.int c, Y]) (hY : Sq Y [.int w, .int b, Z]) (hZ : Sq Z (il l)) (hc : c ≤ 1000) (hw : w ≤ 16) (hb : b ≤ 1000) (hl : l.length ≤ 900) (hp : ∀ x ∈ l, 0 ≤ x) : Th d := by
  obtain ⟨_, f2, f3⟩ := fit_hd hX hY hZ hl
  exact ⟨⟨by omega, f2, Hd.sh (c := c) (w := w) (b := b) (l := l) ⟨Y, Z, hX, hY, hZ⟩⟩, .inl ⟨c, w, b, Y, Z, l, hX, hY, hZ, hc, hw, hb, by omega, hp⟩⟩
theorem w_v16 {c w b s : Nat} {cs : List Int} {h wD y7 y14 : Dat} (r : Rg c w b s cs) (hh : Hd c w b cs h) (hw : wD.sh = h) (h7 : y7.sh = .lst (il cs)) (h14 : y14.sh = rg c w b cs) (h0 : 0 ≤ n) (hn : n + 100 < 1000000) (k : ∀ z4 z5 z6 z7 z14 x17 x18 x22 x23 x24 x25 x26 x27 x28 x29 n', n ≤ n' → n' ≤ n + 20 → K.nx [x0, some .strm, x2, x3, z4, z5, z6, z7, x8, x9, x10, x11, x12, x13, z14, x15, x16, x17, x18, x19, x20, x21, x22, x23, x24, x25, x26, x27, x28, x29] n') :
    v_16 K [x0, some .strm, x2, x3, some (.int c), some (.int w), some (.int b), some y7, x8, x9, x10, x11, x12, x13, some y14, x15, x16, some h, some wD, x19, x20, x21, x22, x23, x24, x25, x26, x27, x28, x29] n := by
  have cl := r.len_le
  have c2 := r.c2
  have c5 := r.c5
  have w8 := r.w8
  have b8 := r.b8
  have b3 := r.b3
  have s2 := r.s2
  have hl0 : 0 < cs.length := by rw [r.len]; exact Nat.mul_pos (by omega) (by omega)
  have g1 : ∀ R : Dat → Prop, R (stD w b cs) → dIx (rg c w b cs) (.int 1) R := fun R h => ⟨_, at2_1, h⟩
  have hs := hh.sh
  unfold v_16
  simp! [h7, il_len]
  refine ⟨_, rfl, ⟨by omega, by omega, by omega⟩, fun g g0 g1' => ?_⟩
  obtain ⟨a, rfl⟩ : ∃ a : Nat, g = a := ⟨g.toNat, by omega⟩
  simp!
  rw [cut_to]
  simp! [il_closs, il_shs, h7, h14, hs]
  refine g1 _ ?_
  simp! [stD_sh, hs, h7, h14, il_shs]
  refine g1 _ ?_
  simp! [stD_sh, hs, h7, h14, il_shs]
  refine g1 _ ?_
  simp! [stD_sh, hs, h7, h14, il_shs]
  refine w_58 w (by omega) ?_
  have cm : DL.cutD (il cs) none (some (-1)) = il (cs.take (cs.length - 1)) := by
    rw [cut_il]
    congr 1
    have e2 : HT.sIx cs.length cs.length (some (-1)) = cs.length - 1 := by
      show (if (-1 : Int) < 0 then ((-1 : Int) + (cs.length : Int)).toNat else min (-1 : Int).toNat cs.length) = cs.length - 1
      rw [if_pos (by decide)]
      omega
    rw [e2]
    show (cs.drop 0).take (cs.length - 1 - 0) = _
    rw [List.drop_zero, Nat.sub_zero]
  have on1 : (0 : Int) ≤ on w + 1 := by have := p2pos w; have e : on w = 2 ^ w - 1 := rfl; omega
  have pos : ∀ x ∈ cs, 0 ≤ x := fun x hx => (wds_at r.wd hx).1
  simp! [cm, il_shs]
  rw [il_one', il_app', il_len]
  refine ⟨szl (by rw [List.length_take]; omega), ?_⟩
  have stq : stD w b cs = .tup [.int w, .int b, .lst (il cs)] := rfl
  have st1 : Sq (stD w b cs) [.int w, .int b, .lst (il cs)] := .inr rfl
  have p1 : ∀ x ∈ cs.take (cs.length - 1) ++ [on w + 1], 0 ≤ x := fun x hx => by
    rcases List.mem_append.mp hx with z | z
    · exact pos x (List.mem_of_mem_take z)
    · rw [List.mem_singleton.mp z]; exact on1
  obtain ⟨Y, Z, hX, hY, hZ⟩ := hh
  have fst := fit_hd (h := .tup [.int c, stD w b cs]) (c := c) (.inr rfl) st1 (.inl rfl) (by omega)
  have fbl : fitD 1000 (.tup [.bl true, stD w b cs]) = true ∧ dpD (.tup [.bl true, stD w b cs]) ≤ 5 := by
    have a := fst.2.1
    have b := fst.2.2
    unfold fitD fitDs fitDs fitDs at a ⊢
    unfold dpD dpDs dpDs dpDs at b ⊢
    simp [fitD, dpD] at a b ⊢
    exact ⟨a, by omega⟩
  have t1 : Th h := th_ring hX hY hZ (by omega) (by omega) (by omega) (by omega) pos
  refine w_v19 (ths := [h, .tup [.int c, .tup [.int w, .int b, .lst (il (cs.take a))]], .tup [.int ((c : Int) + 1), stD w b cs], .tup [.int 1, stD w b cs], .tup [.bl true, stD w b cs], .tup [.int c, .tup [.int w, .int 2, .lst (il cs)]], .tup [.int c, .tup [.int 3, .int b, .lst (il cs)]], .tup [.int c, .tup [.int w, .int b, .lst (il (cs.take (cs.length - 1) ++ [on w + 1]))]], .tup [.int c], .non, .int 5, .tup [.int c, .non]]) ?_ (by show 12 ≤ 1000; decide) (by omega) (by show n + 1 + ((12 : Nat) : Int) < 1000000; omega) hs hw ?_ ?_ ?_ ?_
  · intro d hd
    simp only [List.mem_cons, List.not_mem_nil, or_false] at hd
    rcases hd with rfl | rfl | rfl | rfl | rfl | rfl | rfl | rfl | rfl | rfl | rfl | rfl
    · exact t1
    · exact th_ring (c := c) (w := w) (b := b) (.inr rfl) (.inr rfl) (.inl rfl) (by omega) (by omega) (by omega) (by rw [List.length_take]; omega) fun x hx => pos x (List.mem_of_mem_take hx)
    · exact th_ring (c := c + 1) (w := w) (b := b) (l := cs) (.inr rfl) st1 (.inl rfl) (by omega) (by omega) (by omega) (by omega) pos
    · exact th_ring (c := 1) (w := w) (b := b) (l := cs) (.inr rfl) st1 (.inl rfl) (by omega) (by omega) (by omega) (by omega) pos
    · exact ⟨⟨fbl.2, fbl.1, rfl⟩, .inr (.inl ⟨stD w b cs, .inr rfl, stD_sh⟩)⟩
    · exact th_ring (c := c) (w := w) (b := 2) (l := cs) (.inr rfl) (.inr rfl) (.inl rfl) (by omega) (by omega) (by omega) (by omega) pos
    · exact th_ring (c := c) (w := 3) (b := b) (l := cs) (.inr rfl) (.inr rfl) (.inl rfl) (by omega) (by omega) (by omega) (by omega) pos
    · exact th_ring (c := c) (w := w) (b := b) (.inr rfl) (.inr rfl) (.inl rfl) (by omega) (by omega) (by omega) (by rw [List.length_append, List.length_take]; show min _ _ + 1 ≤ 900; omega) p1
    · exact ⟨⟨by show 1 ≤ 5; decide, rfl, rfl⟩, .inr (.inr (.inl ⟨c, .inr rfl⟩))⟩
    · exact ⟨⟨by decide, rfl, rfl⟩, .inr (.inr (.inr (.inl rfl)))⟩
    · exact ⟨⟨by decide, rfl, rfl⟩, .inr (.inr (.inr (.inr (.inl ⟨5, rfl⟩))))⟩
    · exact ⟨⟨by show 1 ≤ 5; decide, rfl, rfl⟩, .inr (.inr (.inr (.inr (.inr ⟨c, by omega, .inr rfl⟩))))⟩
  · have := t1.1.1; omega
  · exact t1.1.2.1
  · simp only [Dat.sh, shs, hs, stD_sh, il_shs]
  · intro x17 x18 x22 x24 x25 x26 x27 x28 x29 n' q1 q2
    have q2 : n' ≤ n + 1 + ((12 : Nat) : Int) := q2
    exact k _ _ _ _ _ _ _ _ _ _ _ _ _ _ _ _ (by omega) (by omega)
end
end M4
set_option Elab.async false
set_option linter.all false
set_option maxRecDepth 100000
set_option maxHeartbeats 4000000
/-! the law: each slot's image -/
namespace M4
open PySem L2 DL
open N4 (top fDraw fMixed fSame dpD dpDs fitD fitDs)
section
variable {n : Int} {K : DEnds} {x0 x1 x2 x3 x4 x5 x6 x7 x8 x9 x10 x11 x12 x13 x14 x15 x16 x17 x18 x19 x20 x21 x22 x23 x24 x25 x26 x27 x28 x29 : Option Dat}
theorem hd_rg (c w b : Nat) (l : List Int) : Hd c w b l (rg c w b l) := ⟨_, _, .inr rfl, .inr rfl, .inl rfl⟩
theorem cop_rg {c w b : Nat} {l : List Int} {Q : Dat → Int → Prop} (hl : l.length ≤ 900) (k : ∀ d', d'.sh = rg c w b l → Q d' n) : cop 5 [rg c w b l] n Q := by
  have f := fit_hd (h := rg c w b l) (c := c) (w := w) (b := b) (.inr rfl) (.inr rfl) (.inl rfl) hl
  exact cop_ok (by omega) f.2.1 k
theorem optD_fit {w : Nat} {ws : List Int} (h : ws.length ≤ 900) : (dpD (.lst [optD (img w ws), optD (img w ws)]) ≤ 6) ∧ fitD 1000 (.lst [optD (img w ws), optD (img w ws)]) = true := by
  have hl : ∀ x, img w ws = some x → x.length ≤ 900 := fun x hx => by
    unfold img at hx
    split at hx
    · cases hx
    · split at hx
      · cases hx
      · split at hx
        · cases hx
          unfold room
          rw [List.length_take, List.length_take, List.length_drop]
          omega
        · cases hx
  cases e : img w ws with
  | none => exact ⟨by decide, by rfl⟩
  | some x =>
    have := hl x e
    have z := fit_sq (k := 1000) (m := 0) (d := .lst (il x)) (.inl rfl) (by rw [il_len]; omega) (fit_il x) (by rw [dp_il]; exact Nat.le_refl _)
    simp only [optD, dpD, dpDs, fitD, fitDs] at z ⊢
    simp only [dp_il, fit_il, il_len] at z ⊢
    refine ⟨by omega, ?_⟩
    simp
    omega
theorem w_v15 {c w b s : Nat} {cs : List Int} {h wD y7 y14 : Dat} (r : Rg c w b s cs) (hh : Hd c w b cs h) (hw : wD.sh = h) (h7 : y7.sh = .lst (il cs)) (h14 : y14.sh = rg c w b cs) (h0 : 0 ≤ n) (hn : n + 100 < 1000000) (k : ∀ z4 z5 z6 z7 z14 x17 x18 x20 x22 x23 x24 x25 x26 x27 x28 x29 n', n ≤ n' → n' ≤ n + 20 → K.nx [x0, some .strm, x2, x3, z4, z5, z6, z7, x8, x9, x10, x11, x12, x13, z14, x15, x16, x17, x18, x19, x20, x21, x22, x23, x24, x25, x26, x27, x28, x29] n') :
    v_15 K [x0, some .strm, x2, x3, some (.int c), some (.int w), some (.int b), some y7, x8, x9, x10, x11, x12, x13, some y14, x15, x16, some h, some wD, x19, x20, x21, x22, x23, x24, x25, x26, x27, x28, x29] n := by
  have cl := r.len_le
  have c5 := r.c5
  have hs := hh.sh
  unfold v_15
  simp!
  refine ⟨by omega, by omega, ?_⟩
  rw [Int.toNat_natCast]
  refine for_inv (fun q D m => ∃ (i : Nat) (z14 : Dat) (x20 x22 : Option Dat), i ≤ c ∧ q = rngD i (c - i) ∧ m = n ∧ z14.sh = rg c w b cs ∧ D = [x0, some .strm, x2, x3, some (.int c), some (.int w), some (.int b), some y7, x8, x9, x10, x11, x12, x13, some z14, x15, x16, some h, some wD, x19, x20, x21, x22, x23, x24, x25, x26, x27, x28, x29]) ?_ ?_ _ _ _ ⟨0, y14, _, _, by omega, by rw [Nat.sub_zero]; rfl, rfl, h14, rfl⟩
  · rintro D m ⟨i, z14, x20, x22, i1, i2, rfl, hz, rfl⟩
    exact w_v16 r hh hw h7 hz h0 hn fun z4 z5 z6 z7 z14 x17 x18 x22 x23 x24 x25 x26 x27 x28 x29 n' q1 q2 => k _ _ _ _ _ _ _ _ _ _ _ _ _ _ _ _ _ q1 q2
  · rintro d q nx hN D m ⟨i, z14, x20, x22, i1, i2, rfl, hz, rfl⟩
    obtain ⟨hi, rfl, i3⟩ := rng_step i2
    have im67 : ∀ Q : Dat → Int → Prop, Q (optD (img w (sl s i cs))) m → f_67 [rg c w b cs, .int i] m Q := fun Q h => w_67 r hi h
    obtain ⟨Y, Z, hX, hY, hZ⟩ := hh
    have ri : ∀ (Q : Dat → Int → Prop), Q (optD (img w (sl s i cs))) m → f_35 [h, .int i] m Q := fun Q q => w_35 hX hY hZ r hi q
    have ri2 : ∀ (Q : Dat → Int → Prop), Q (optD (img w (sl s i cs))) m → f_35 [rg c w b cs, .int i] m Q := fun Q q => w_35 (.inr rfl) (.inr rfl) (.inl rfl) r hi q
    obtain ⟨o1, o2⟩ := optD_fit (w := w) (ws := sl s i cs) (by rw [r.sl_len hi]; have := r.s9; omega)
    simp! [hz]
    refine im67 _ ?_
    have oc : ∀ o : Option (List Int), (optD o).clos = true ∨ (optD o).clos = false := fun o => by cases o <;> simp [optD, Dat.clos, closs]
    have rr : (rg c w b cs).sh = rg c w b cs := rg_sh ..
    rcases oc (img w (sl s i cs)) with c1 | c1
    all_goals
      simp! [c1, hz, rr, hs, optD_sh]
      refine ri _ ?_
      simp! [hz, rr]
      refine cop_rg (by omega) fun d' hd' => ?_
      simp! [hd', rr]
      refine ri2 _ ?_
      simp! [optD_sh]
      refine same_ok o1 o2 ?_
      simp!
      exact hN _ _ ⟨i + 1, _, some (.int i), _, by omega, i3, rfl, by first | exact hz | exact rr, rfl⟩
end
end M4
set_option Elab.async false
set_option linter.all false
set_option maxRecDepth 100000
set_option maxHeartbeats 4000000
/-! the law: run and why, twice -/
namespace M4
open PySem L2 DL
open N4 (top fDraw fMixed fSame dpD dpDs fitD fitDs toN toNs)
section
variable {n : Int} {K : DEnds} {x0 x1 x2 x3 x4 x5 x6 x7 x8 x9 x10 x11 x12 x13 x14 x15 x16 x17 x18 x19 x20 x21 x22 x23 x24 x25 x26 x27 x28 x29 : Option Dat}
theorem pls_il : ∀ l : List Int, pls (il l) = true
  | [] => rfl
  | x :: l => by rw [il_cons]; unfold pls; rw [pls_il l]; rfl
theorem pl_sq {d : Dat} {l : List Dat} (h : Sq d l) (p : pls l = true) : d.pl = true := by
  rcases h with rfl | rfl <;> exact p
theorem pl_hd {c w b : Nat} {l : List Int} {h : Dat} (x : Hd c w b l h) : h.pl = true := by
  obtain ⟨Y, Z, hX, hY, hZ⟩ := x
  have z := pl_sq hZ (pls_il l)
  have y := pl_sq hY (by unfold pls pls pls pls; rw [z]; rfl)
  exact pl_sq hX (by unfold pls pls pls; rw [y]; rfl)
theorem runD_ok (o : Option (Nat × Int)) : (dpD (runD o).sh ≤ 5 ∧ fitD 900 (runD o).sh = true) ∧ (runD o).clos = true ∧ (runD o).pl = true ∧ (runD o).sh = runD o := by
  cases o with
  | none => exact ⟨⟨by decide, rfl⟩, rfl, rfl, rfl⟩
  | some p => exact ⟨⟨by show 1 ≤ 5; decide, rfl⟩, rfl, rfl, rfl⟩
theorem whyN_ok {w s : Nat} {l : List Int} {o : Option (Nat × Int)} {k : Nat} (hk : k ≤ 5) : (dpD (.lst (whyN w s l o k)) ≤ 5 ∧ fitD 900 (.lst (whyN w s l o k)) = true) ∧ closs (whyN w s l o k) = true ∧ pls (whyN w s l o k) = true := by
  have all : ∀ q : List Nat, dpDs (q.map fun i => DL.Dat.str (whyAt o i (word w (sl s i l)))) = 0 ∧ fitDs 900 (q.map fun i => DL.Dat.str (whyAt o i (word w (sl s i l)))) = true ∧ closs (q.map fun i => DL.Dat.str (whyAt o i (word w (sl s i l)))) = true ∧ pls (q.map fun i => DL.Dat.str (whyAt o i (word w (sl s i l)))) = true := fun q => by
    induction q with
    | nil => exact ⟨rfl, rfl, rfl, rfl⟩
    | cons i q ih =>
      rw [List.map_cons]
      unfold dpDs fitDs closs pls
      rw [ih.1, ih.2.1, ih.2.2.1, ih.2.2.2]
      exact ⟨rfl, rfl, rfl, rfl⟩
  obtain ⟨a1, a2, a3, a4⟩ := all (List.range k)
  refine ⟨⟨?_, ?_⟩, a3, a4⟩
  · unfold dpD
    show dpDs (whyN w s l o k) + 1 ≤ 5
    unfold whyN
    rw [a1]
    decide
  · unfold fitD
    rw [whyN_len, decide_eq_true (by omega)]
    exact a2
theorem w_v14 {c w b s : Nat} {cs : List Int} {h wD y7 y14 : Dat} (r : Rg c w b s cs) (hh : Hd c w b cs h) (hw : wD.sh = h) (h7 : y7.sh = .lst (il cs)) (h14 : y14.sh = rg c w b cs) (h0 : 0 ≤ n) (hn : n + 100 < 1000000) (k : ∀ z4 z5 z6 z7 z14 x17 x18 x19 x20 x21 x22 x23 x24 x25 x26 x27 x28 x29 n', n ≤ n' → n' ≤ n + 20 → K.nx [x0, some .strm, x2, x3, z4, z5, z6, z7, x8, x9, x10, x11, x12, x13, z14, x15, x16, x17, x18, x19, x20, x21, x22, x23, x24, x25, x26, x27, x28, x29] n') :
    v_14 K [x0, some .strm, x2, x3, some (.int c), some (.int w), some (.int b), some y7, x8, x9, x10, x11, x12, x13, some y14, x15, x16, some h, some wD, some (.own (whyN w s cs (bst w s c cs) c)), x20, some (runD (bst w s c cs)), x22, x23, x24, x25, x26, x27, x28, x29] n := by
  have cl := r.len_le
  have c5 := r.c5
  have hs := hh.sh
  obtain ⟨d1, d2, d3, d4⟩ := runD_ok (bst w s c cs)
  obtain ⟨e1, e2, e3⟩ := whyN_ok (w := w) (s := s) (l := cs) (o := bst w s c cs) (k := c) c5
  have rr : (rg c w b cs).sh = rg c w b cs := rg_sh ..
  have ph := pl_hd hh
  have pr := pl_hd (hd_rg c w b cs)
  have p1 : pls [h] = true := by unfold pls pls; rw [ph]; rfl
  have p2 : pls [rg c w b cs] = true := by unfold pls pls; rw [pr]; rfl
  obtain ⟨Y, Z, hX, hY, hZ⟩ := id hh
  unfold v_14
  simp! [hs, h14, whyN_shs, d4]
  refine ⟨rfl, runD (bst w s c cs), rfl, d1, [h], [rg c w b cs], rfl, rfl, ⟨p1, p2⟩, fun k' => ?_, fun k' => ?_, ?_⟩
  · simp! [hs]
    refine w_41 hX hY hZ r ?_
    exact ⟨d2, d3, by rw [d4]⟩
  · simp! [rr]
    refine cop_rg (by omega) fun d' hd' => ?_
    simp! [hd', rr]
    refine w_41 (.inr rfl) (.inr rfl) (.inl rfl) r ?_
    exact ⟨d2, d3, by rw [d4]⟩
  · simp!
    refine ⟨rfl, .lst (whyN w s cs (bst w s c cs) c), rfl, e1, [h], [rg c w b cs], rfl, rfl, ⟨p1, p2⟩, fun k' => ?_, fun k' => ?_, ?_⟩
    · simp! [hs]
      refine w_43 hX hY hZ r ?_
      exact ⟨e2, e3, rfl⟩
    · simp! [rr]
      refine cop_rg (by omega) fun d' hd' => ?_
      simp! [hd', rr]
      refine w_43 (.inr rfl) (.inr rfl) (.inl rfl) r ?_
      exact ⟨e2, e3, rfl⟩
    · simp!
      exact w_v15 r hh hw h7 h14 h0 hn fun z4 z5 z6 z7 z14 x17 x18 x20 x22 x23 x24 x25 x26 x27 x28 x29 n' q1 q2 => k _ _ _ _ _ _ _ _ _ _ _ _ _ _ _ _ _ _ _ q1 q2
end
end M4
set_option Elab.async false
set_option linter.all false
set_option maxRecDepth 100000
set_option maxHeartbeats 4000000
/-! the law: what is due -/
namespace M4
open PySem L2 DL
open N4 (top fDraw fMixed fSame dpD dpDs fitD fitDs toN toNs)
section
variable {n : Int} {K : DEnds} {x0 x1 x2 x3 x4 x5 x6 x7 x8 x9 x10 x11 x12 x13 x14 x15 x16 x17 x18 x19 x20 x21 x22 x23 x24 x25 x26 x27 x28 x29 : Option Dat}
theorem w_v12 {c w b s : Nat} {cs : List Int} {h y7 y14 : Dat} (r : Rg c w b s cs) (hh : Hd c w b cs h) (h7 : y7.sh = .lst (il cs)) (h14 : y14.sh = rg c w b cs) (h0 : 0 ≤ n) (hn : n + 100 < 1000000) (k : ∀ z4 z5 z6 z7 z14 x16 x17 x18 x19 x20 x21 x22 x23 x24 x25 x26 x27 x28 x29 n', n ≤ n' → n' ≤ n + 20 → K.nx [x0, some .strm, x2, x3, z4, z5, z6, z7, x8, x9, x10, x11, x12, x13, z14, x15, x16, x17, x18, x19, x20, x21, x22, x23, x24, x25, x26, x27, x28, x29] n') :
    v_12 K [x0, some .strm, x2, x3, some (.int c), some (.int w), some (.int b), some y7, x8, x9, x10, x11, x12, x13, some y14, x15, x16, some h, x18, x19, x20, x21, x22, x23, x24, x25, x26, x27, x28, x29] n := by
  have cl := r.len_le
  have hs := hh.sh
  have rr : (rg c w b cs).sh = rg c w b cs := rg_sh ..
  obtain ⟨Y, Z, hX, hY, hZ⟩ := id hh
  have fh := fit_hd hX hY hZ (by omega)
  have fin : ∀ (z14 x18 : Dat) (x20 : Option Dat), z14.sh = rg c w b cs → x18.sh = h → v_14 K [x0, some .strm, x2, x3, some (.int c), some (.int w), some (.int b), some y7, x8, x9, x10, x11, x12, x13, some z14, x15, x16, some h, some x18, some (.own (whyN w s cs (bst w s c cs) c)), x20, some (runD (bst w s c cs)), x22, x23, x24, x25, x26, x27, x28, x29] n := fun z14 x18 x20 e1 e2 =>
    w_v14 r hh e2 h7 e1 h0 hn fun z4 z5 z6 z7 z14 x17 x18 x19 x20 x21 x22 x23 x24 x25 x26 x27 x28 x29 n' q1 q2 => k _ _ _ _ _ _ _ _ _ _ _ _ _ _ _ _ _ _ _ _ q1 q2
  unfold v_12
  simp! [hs, h14, rr]
  refine cop_ok (by omega) fh.2.1 fun d' hd' => ?_
  refine w_69 r ?_
  refine w_70 r ?_
  have wc := (whyN_ok (w := w) (s := s) (l := cs) (o := bst w s c cs) (k := c) r.c5).2.1
  have sc := slD_clos (bst w s c cs)
  have ss := slD_sh (bst w s c cs)
  rcases Bool.eq_false_or_eq_true d'.clos with c1 | c1
  all_goals
    simp! [c1, wc, sc, hs, h14, rr, slD_nn, ss]
    refine iteP (fun hno => ?_) fun hno => ?_
    · cases e : bst w s c cs with
      | some p => rw [e] at hno; cases hno
      | none =>
        rw [e] at fin
        exact fin _ _ _ (by first | exact h14 | exact rr) hd'
    · cases e : bst w s c cs with
      | none => rw [e] at hno; exact (hno rfl).elim
      | some p =>
        obtain ⟨j, u⟩ := p
        obtain ⟨hj, hv⟩ := bs_ver e
        obtain ⟨x, hx, ex⟩ := verR_img hv
        have hx0 := img_at0 hx (r.sl_wd j)
        have e0 := at_il (l := x) (i := 0) hx0.1
        simp only [x_c0, ex] at e0
        rw [e] at fin
        refine w_67 r hj ?_
        rw [hx]
        simp! [slD, optD, e0]
        exact fin _ _ _ (by first | exact h14 | exact rr) hd'
/-- the loose shape of a ring -/
theorem lo_int {i : Int} {x : Dat} (h : lo (.int i) x) : x = .int i := h
theorem los_il : ∀ (l : List Int) (xs : List Dat), los (il l) xs → xs = il l
  | [], xs, h => h
  | i :: l, xs, h => by
    rw [il_cons] at h
    unfold los at h
    obtain ⟨x, q, rfl, h1, h2⟩ := h
    rw [lo_int h1, los_il l q h2]
    rfl
theorem lo_hd {c w b : Nat} {l : List Int} {x : Dat} (h : lo (rg c w b l) x) : Hd c w b l x := by
  unfold rg lo at h
  obtain ⟨q, hq, h⟩ := h
  unfold los at h
  obtain ⟨x1, q1, rfl, h1, h⟩ := h
  unfold los at h
  obtain ⟨Y, q2, rfl, hy, h⟩ := h
  have h : q2 = [] := h
  subst h
  have h1 := lo_int h1
  subst h1
  unfold lo at hy
  obtain ⟨p, hp, h⟩ := hy
  unfold los at h
  obtain ⟨a1, p1, rfl, h1, h⟩ := h
  unfold los at h
  obtain ⟨a2, p2, rfl, h2, h⟩ := h
  unfold los at h
  obtain ⟨Z, p3, rfl, hz, h⟩ := h
  have h : p3 = [] := h
  subst h
  have h1 := lo_int h1
  have h2 := lo_int h2
  subst h1
  subst h2
  unfold lo at hz
  obtain ⟨zl, hz, h⟩ := hz
  have h := los_il l zl h
  subst h
  exact ⟨Y, Z, hq, hp, hz⟩
theorem nds_il : ∀ l : List Int, nds (il l) = 0
  | [] => rfl
  | x :: l => by rw [il_cons]; unfold nds; rw [nds_il l]; rfl
theorem nd_rg {c w b : Nat} {l : List Int} : nd (rg c w b l) = 3 := by
  unfold rg
  simp [nd, nds, nds_il]
theorem w_v10 {c w b s : Nat} {cs : List Int} {y7 : Dat} (r : Rg c w b s cs) (h7 : y7.sh = .lst (il cs)) (h0 : 0 ≤ n) (hn : n + 200 < 1000000) (k : ∀ z4 z5 z6 z7 z14 x16 x17 x18 x19 x20 x21 x22 x23 x24 x25 x26 x27 x28 x29 n', n ≤ n' → n' ≤ n + 30 → K.nx [x0, some .strm, x2, x3, z4, z5, z6, z7, x8, x9, x10, x11, x12, x13, z14, x15, x16, x17, x18, x19, x20, x21, x22, x23, x24, x25, x26, x27, x28, x29] n') :
    v_10 K [x0, some .strm, x2, x3, some (.int c), some (.int w), some (.int b), some y7, x8, x9, x10, x11, x12, x13, x14, x15, x16, x17, x18, x19, x20, x21, x22, x23, x24, x25, x26, x27, x28, x29] n := by
  have cl := r.len_le
  have f := fit_hd (h := rg c w b cs) (c := c) (w := w) (b := b) (.inr rfl) (.inr rfl) (.inl rfl) (show cs.length ≤ 900 by omega)
  have rr : (rg c w b cs).sh = rg c w b cs := rg_sh ..
  have e14 : ∀ z : Dat, z = .tup [.int c, .tup [.int w, .int b, .lst (il cs)]] → z = rg c w b cs := fun z h => h
  unfold v_10
  simp! [h7]
  refine ⟨rg c w b cs, rfl, ⟨by omega, f.2.1, by rw [nd_rg]; omega⟩, fun d hd hds => ?_⟩
  rw [nd_rg]
  rw [hds] at hd
  have hh := lo_hd hd
  rcases Bool.eq_false_or_eq_true d.clos with c1 | c1
  all_goals
    simp! [c1, h7, rr]
    exact w_v12 (y14 := rg c w b cs) r hh rfl rr (by omega) (by omega) fun z4 z5 z6 z7 z14 x16 x17 x18 x19 x20 x21 x22 x23 x24 x25 x26 x27 x28 x29 n' q1 q2 => k _ _ _ _ _ _ _ _ _ _ _ _ _ _ _ _ _ _ _ _ (by omega) (by omega)
end
end M4
set_option Elab.async false
set_option linter.all false
set_option maxRecDepth 100000
set_option maxHeartbeats 4000000
/-! the law: worn cells -/
namespace M4
open PySem L2 DL
open N4 (top fDraw fMixed fSame dpD dpDs fitD fitDs toN toNs)
section
variable {n : Int} {K : DEnds} {x0 x1 x2 x3 x4 x5 x6 x7 x8 x9 x10 x11 x12 x13 x14 x15 x16 x17 x18 x19 x20 x21 x22 x23 x24 x25 x26 x27 x28 x29 : Option Dat}
theorem w_v9 {c w b s : Nat} {cs : List Int} (r : Rg c w b s cs) (h0 : 0 ≤ n) (hn : n + 500 < 1000000) (k : ∀ z4 z5 z6 z7 z8 z14 x15 x16 x17 x18 x19 x20 x21 x22 x23 x24 x25 x26 x27 x28 x29 n', n ≤ n' → n' ≤ n + 100 → K.nx [x0, some .strm, x2, x3, z4, z5, z6, z7, z8, x9, x10, x11, x12, x13, z14, x15, x16, x17, x18, x19, x20, x21, x22, x23, x24, x25, x26, x27, x28, x29] n') :
    v_9 K [x0, some .strm, x2, x3, some (.int c), some (.int w), some (.int b), some (.own (il cs)), some (.int s), x9, x10, x11, x12, x13, x14, x15, x16, x17, x18, x19, x20, x21, x22, x23, x24, x25, x26, x27, x28, x29] n := by
  have c2 := r.c2
  have c5 := r.c5
  have w4 := r.w4
  have w8 := r.w8
  have s6 : 6 ≤ s := by have := r.s2; have := r.b3; omega
  have s9 := r.s9
  have p8 := p28 w8
  have z0 := p2pos w
  have on1 : on w = 2 ^ w - 1 := rfl
  have on15 := on_pos w4
  have mkw : 0 ≤ mk w ∧ mk w < 2 ^ w := by
    have cs : w = 4 ∨ w = 5 ∨ w = 6 ∨ w = 7 ∨ w = 8 := by omega
    rcases cs with rfl | rfl | rfl | rfl | rfl <;> decide
  unfold v_9
  simp!
  refine ⟨5, rfl, ⟨by decide, by decide, by omega⟩, fun g g0 g5 => ?_⟩
  simp!
  refine ⟨by omega, by omega, ?_⟩
  refine for_inv (fun q D m => ∃ (cs' : List Int) (x15 x16 : Option Dat), Rg c w b s cs' ∧ q.length ≤ 4 ∧ n ≤ m ∧ m + 10 * q.length ≤ n + 50 ∧ D = [x0, some .strm, x2, x3, some (.int c), some (.int w), some (.int b), some (.own (il cs')), some (.int s), x9, x10, x11, x12, x13, x14, x15, x16, x17, x18, x19, x20, x21, x22, x23, x24, x25, x26, x27, x28, x29]) ?_ ?_ _ _ _ ⟨cs, _, _, r, by rw [rng_len]; omega, by omega, by rw [rng_len]; omega, rfl⟩
  · rintro D m ⟨cs', x15, x16, r', q1, q2, q3, rfl⟩
    have q3 : m ≤ n + 50 := by simpa using q3
    exact w_v10 r' (by show Dat.lst (shs (il cs')) = _; rw [il_shs]) (by omega) (by omega) fun z4 z5 z6 z7 z14 x16 x17 x18 x19 x20 x21 x22 x23 x24 x25 x26 x27 x28 x29 n' q1 q2 => k _ _ _ _ _ _ _ _ _ _ _ _ _ _ _ _ _ _ _ _ _ _ (by omega) (by omega)
  · rintro d q nx hN D m ⟨cs', x15, x16, r', q1, q2, q3, rfl⟩
    rw [List.length_cons] at q1 q3
    simp!
    refine ⟨_, rfl, ⟨by omega, by omega, by omega⟩, fun a a0 a1 => ?_⟩
    obtain ⟨a, rfl⟩ : ∃ a' : Nat, a = a' := ⟨a.toNat, by omega⟩
    simp!
    refine ⟨.inr ⟨by omega, by omega⟩, _, rfl, ⟨by omega, by omega, by omega⟩, fun t t0 t1 => ?_⟩
    simp!
    refine w_47i (l := [0, 1, 2, 3, 4, (s : Int) - 1, t]) (by show 0 < 7; decide) (by show 7 ≤ 1000; decide) (by omega) fun y hy => ?_
    have hy2 : 0 ≤ y ∧ y < s := by
      simp only [List.mem_cons, List.not_mem_nil, or_false] at hy
      omega
    obtain ⟨y, rfl⟩ : ∃ y' : Nat, y = y' := ⟨y.toNat, by omega⟩
    have e1 : (a : Int) * (s : Int) + (y : Int) = ((a * s + y : Nat) : Int) := by simp
    have hin : a * s + y < cs'.length := by rw [r'.len]; exact in_lt (by omega) (by omega)
    simp! [e1, il_shs]
    have av := at_il hin
    have ai := wds_at r'.wd (getD_mem hin)
    refine w_56 w (by omega) ?_
    refine w_58 w (by omega) ?_
    simp! [av]
    refine w_47i (l := [0, 1, mk w, on w, cs'.getD (a * s + y) 0]) (by show 0 < 5; decide) (by show 5 ≤ 1000; decide) (by omega) fun v hv => ?_
    have hv2 : 0 ≤ v ∧ v < 2 ^ w := by
      simp only [List.mem_cons, List.not_mem_nil, or_false] at hv
      rcases hv with rfl | rfl | rfl | rfl | rfl
      · omega
      · omega
      · exact mkw
      · omega
      · exact ai
    simp! [il_len, ixN_nat hin, il_set]
    exact hN _ _ ⟨cs'.set (a * s + y) v, _, _, r'.keep (by rw [List.length_set, r'.len]) (wds_set r'.wd hv2), by omega, by omega, by omega, rfl⟩
end
end M4
set_option Elab.async false
set_option linter.all false
set_option maxRecDepth 100000
set_option maxHeartbeats 4000000
/-! the law: the last ring told -/
namespace M4
open PySem L2 DL
open N4 (top fDraw fMixed fSame dpD dpDs fitD fitDs toN toNs)
section
variable {n : Int} {K : DEnds} {x0 x1 x2 x3 x4 x5 x6 x7 x8 x9 x10 x11 x12 x13 x14 x15 x16 x17 x18 x19 x20 x21 x22 x23 x24 x25 x26 x27 x28 x29 : Option Dat}
theorem cmp_rg {c w b : Nat} {l : List Int} : cmpK 3 (rg c w b l) := by
  have h1 : cmpK 2 (.tup [.int w, .int b, .lst (il l)]) := cmp_tup (k := 1) fun d hd => by
    simp only [List.mem_cons, List.not_mem_nil, or_false] at hd
    rcases hd with rfl | rfl | rfl
    · exact cmp_int _
    · exact cmp_int _
    · exact cmp_il l
  refine cmp_tup (k := 2) fun d hd => ?_
  simp only [List.mem_cons, List.not_mem_nil, or_false] at hd
  rcases hd with rfl | rfl
  · exact cmp_int _
  · exact h1
theorem cmp_up {j k : Nat} {d : Dat} (h : cmpK j d) (hk : j ≤ k) : cmpK k d := ⟨h.1, h.2.1, Nat.le_trans h.2.2 hk⟩
def DoneR (c w b s : Nat) (d : Dat) : Prop := ∃ (told : Dat) (l : List Int) (run : Option Nat), d = .tup [.str "done", told, rg c w b l, rnD run] ∧ Rg c w b s l ∧ cmpK 1 told
theorem cmp_done {c w b s : Nat} {d : Dat} (h : DoneR c w b s d) : cmpK 4 d := by
  obtain ⟨told, l, run, rfl, _, ht⟩ := h
  have s1 : cmpK 3 (.str "done") := cmp_s (by decide +kernel)
  refine cmp_tup (k := 3) fun d hd => ?_
  simp only [List.mem_cons, List.not_mem_nil, or_false] at hd
  rcases hd with rfl | rfl | rfl | rfl
  · exact s1
  · exact cmp_up ht (by decide)
  · exact cmp_rg
  · cases run with
    | none => exact ⟨rfl, rfl, Nat.zero_le _⟩
    | some j => exact cmp_int _
theorem at_m1 {l : List Dat} (h : l ≠ []) : ∃ d ∈ l, atI l (-1) = some d := by
  have hl : 0 < l.length := List.length_pos_iff.mpr h
  refine ⟨l[l.length - 1], List.getElem_mem _, ?_⟩
  unfold atI ixN
  rw [if_neg (by decide), if_pos (by omega)]
  show l[(-1 + (l.length : Int)).toNat]? = _
  rw [show (-1 + (l.length : Int)).toNat = l.length - 1 by omega]
  exact List.getElem?_eq_getElem (by omega)
theorem shs_fix : ∀ {l : List Dat}, shs l = l → ∀ d ∈ l, d.sh = d
  | x :: l, h, d, hd => by
    unfold shs at h
    injection h with h1 h2
    rcases List.mem_cons.mp hd with rfl | z
    · exact h1
    · exact shs_fix h2 d z
theorem w_v6 {c w b s : Nat} {l : List Int} {y3 : Dat} (r : Rg c w b s l) (h3 : y3.sh = rg c w b l) (h0 : 0 ≤ n) (hn : n + 3000 < 1000000) (k : ∀ z3 z4 z5 z6 z7 z8 z12 z13 z14 x15 x16 x17 x18 x19 x20 x21 x22 x23 x24 x25 x26 x27 x28 x29 n', n ≤ n' → n' ≤ n + 1600 → K.nx [x0, some .strm, x2, z3, z4, z5, z6, z7, z8, x9, x10, x11, z12, z13, z14, x15, x16, x17, x18, x19, x20, x21, x22, x23, x24, x25, x26, x27, x28, x29] n') :
    v_6 K [x0, some .strm, x2, some y3, some (.int c), some (.int w), some (.int b), x7, some (.int s), x9, x10, x11, x12, x13, x14, x15, x16, x17, x18, x19, x20, x21, x22, x23, x24, x25, x26, x27, x28, x29] n := by
  have rr : (rg c w b l).sh = rg c w b l := rg_sh ..
  have g1 : ∀ (l : List Int) (R : Dat → Prop), R (stD w b l) → dIx (rg c w b l) (.int 1) R := fun l R h => ⟨_, at2_1, h⟩
  have g2 : ∀ (l : List Int) (R : Dat → Prop), R (.lst (il l)) → dIx (stD w b l) (.int 2) R := fun l R h => ⟨_, rfl, h⟩
  have t0 : ∀ a b c d : Dat, atI [a, b, c, d] 0 = some a := fun _ _ _ _ => rfl
  have t2 : ∀ a b c d : Dat, atI [a, b, c, d] 2 = some c := fun _ _ _ _ => rfl
  have fin : ∀ (z3 : Dat) (z12 : Option Dat) (z13 : Dat) (z14 : Dat) (l' : List Int) (m : Int), Rg c w b s l' → n ≤ m → m ≤ n + 1400 → z14 = rg c w b l' → v_9 K [x0, some .strm, x2, some z3, some (.int c), some (.int w), some (.int b), some (.own (il l')), some (.int s), x9, x10, x11, z12, some z13, some z14, x15, x16, x17, x18, x19, x20, x21, x22, x23, x24, x25, x26, x27, x28, x29] m := fun z3 z12 z13 z14 l' m r' q1 q2 e =>
    w_v9 r' (by omega) (by omega) fun z4 z5 z6 z7 z8 z14 x15 x16 x17 x18 x19 x20 x21 x22 x23 x24 x25 x26 x27 x28 x29 n' q1 q2 => k _ _ _ _ _ _ _ _ _ _ _ _ _ _ _ _ _ _ _ _ _ _ _ _ _ (by omega) (by omega)
  unfold v_6
  simp! [h3, rr]
  refine w_73 r h0 (by omega) fun fs ts n' n1 n2 ts1 ts2 ts3 => ?_
  simp! [at2_1, ts1]
  refine ⟨szl (by omega), ?_⟩
  refine lc_inv (fun q acc m => (∀ d ∈ q, StepR c w b s d) ∧ (∀ d ∈ acc, DoneR c w b s d) ∧ shs acc = acc ∧ (∀ d ∈ q, d.sh = d) ∧ m = n') ?_ ?_ _ _ _ ⟨ts3, (fun d h => by cases h), rfl, (fun d h => by exact shs_fix ts1 d h), rfl⟩
  · rintro acc m ⟨_, a1, a2, _, rfl⟩
    have ca : cmpK 5 (.lst acc) := cmp_lst fun d hd => cmp_done (a1 d hd)
    have rc : (rg c w b l).clos = false := rfl
    rcases Bool.eq_false_or_eq_true (closs acc) with c1 | c1
    all_goals
      simp! [c1, a2, h3, rr]
      refine ne_emp (by decide) ca ?_
      simp!
      refine iteP (fun he => ?_) fun he => ?_
      · have ne : acc ≠ [] := fun z => by rw [z] at he; cases he
        obtain ⟨d, hd, ad⟩ := at_m1 ne
        obtain ⟨told, l', run, rfl, r', _⟩ := a1 d hd
        have ds := shs_fix a2 _ hd
        have rr' : (rg c w b l').sh = rg c w b l' := rg_sh ..
        have rc' : (rg c w b l').clos = false := rfl
        refine ⟨_, ad, ?_⟩
        simp! [ds, t2, rr', rc', h3, rr, a2]
        refine g1 l' _ ?_
        simp! [stD_sh]
        refine g2 l' _ ?_
        simp!
        exact fin _ _ _ _ l' _ r' n1 n2 rfl
      · simp! [rr, rc, h3, a2]
        refine g1 l _ ?_
        simp! [stD_sh]
        refine g2 l _ ?_
        simp!
        exact fin _ _ _ _ l _ r n1 n2 rfl
  · rintro d q R hR acc m ⟨a0, a1, a2, a3, rfl⟩
    have ds := a3 d (List.mem_cons_self ..)
    have rq := fun x hx => a0 x (List.mem_cons_of_mem _ hx)
    have rq3 := fun x hx => a3 x (List.mem_cons_of_mem _ hx)
    rcases a0 d (List.mem_cons_self ..) with ⟨x, rfl⟩ | ⟨told, l', run, rfl, r', _, ht⟩
    · simp! [at2_0, t_10]
      exact hR _ _ ⟨rq, a1, a2, rq3, rfl⟩
    · simp! [ds, t0]
      refine hR _ _ ⟨rq, fun x hx => ?_, ?_, rq3, rfl⟩
      · rcases List.mem_append.mp hx with z | z
        · exact a1 x z
        · rw [List.mem_singleton.mp z]; exact ⟨told, l', run, rfl, r', ht⟩
      · rw [shs_app, a2]
        show acc ++ [Dat.sh _] = _
        rw [ds]
end
end M4
set_option Elab.async false
set_option linter.all false
set_option maxRecDepth 100000
set_option maxHeartbeats 4000000
/-! the law: a turn -/
namespace M4
open PySem L2 DL
open N4 (top fDraw fMixed fSame dpD dpDs fitD fitDs toN toNs)
section
variable {n : Int} {K : DEnds} {x0 x1 x2 x3 x4 x5 x6 x7 x8 x9 x10 x11 x12 x13 x14 x15 x16 x17 x18 x19 x20 x21 x22 x23 x24 x25 x26 x27 x28 x29 : Option Dat}
theorem fr_img {w b m c : Nat} {body : List Int} (w4 : 4 ≤ w) (w8 : w ≤ 8) (hb : body.length ≤ 6) (hs : body.length + 9 ≤ b * m) : img w (sl (b * m) 0 (frL w b m c (mkI w 0 body))) = some (mkI w 0 body) := by
  have on15 := on_pos w4
  have li : (mkI w 0 body).length = body.length + 5 := rfl
  have g := mkI_good (v := 0) w4 (by omega) hb
  have e1 : sl (b * m) 0 (frL w b m c (mkI w 0 body)) = [mk w, 0, 0] ++ (mkI w 0 body ++ (List.replicate (b * m - 4 - (mkI w 0 body).length) (on w) ++ [mk w])) := by
    unfold sl frL
    rw [Nat.zero_mul, List.drop_zero, List.append_assoc, List.append_assoc, List.append_assoc, ← List.append_assoc _ [mk w], ← List.append_assoc (mkI w 0 body), ← List.append_assoc [mk w, 0, 0]]
    rw [List.take_append_of_le_length (by simp only [List.length_append, List.length_replicate, List.length_cons, List.length_nil, li]; omega)]
    exact List.take_of_length_le (by simp only [List.length_append, List.length_replicate, List.length_cons, List.length_nil, li]; omega)
  have hl3 : ([mk w, 0, 0] ++ (mkI w 0 body ++ (List.replicate (b * m - 4 - (mkI w 0 body).length) (on w) ++ [mk w]))).length - 4 = body.length + 5 + (b * m - 4 - (body.length + 5)) := by
    simp only [List.length_append, List.length_replicate, List.length_cons, List.length_nil, li]
    omega
  have e2 : room (sl (b * m) 0 (frL w b m c (mkI w 0 body))) = mkI w 0 body ++ List.replicate (b * m - 4 - (mkI w 0 body).length) (on w) := by
    rw [e1]
    unfold room
    rw [hl3]
    show ((mkI w 0 body ++ (List.replicate _ (on w) ++ [mk w]))).take _ = _
    have hl4 : (mkI w 0 body ++ List.replicate (b * m - 4 - (mkI w 0 body).length) (on w)).length = body.length + 5 + (b * m - 4 - (body.length + 5)) := by
      rw [List.length_append, List.length_replicate, li]
    rw [← List.append_assoc, ← hl4]
    exact List.take_left ..
  have e3 : (mkI w 0 body ++ List.replicate (b * m - 4 - (mkI w 0 body).length) (on w)).getD 1 0 = body.length := rfl
  have e4 : (mkI w 0 body ++ List.replicate (b * m - 4 - (mkI w 0 body).length) (on w)).take (body.length + 5) = mkI w 0 body := by
    rw [List.take_append_of_le_length (by rw [li]; exact Nat.le_refl _)]
    exact List.take_of_length_le (by rw [li]; exact Nat.le_refl _)
  unfold img
  rw [e2, e3, Int.toNat_natCast, e4, List.length_append, li, List.length_replicate, if_neg (by omega), if_neg (by omega), if_pos g]
end
end M4
set_option Elab.async false
set_option linter.all false
set_option maxRecDepth 100000
set_option maxHeartbeats 4000000
/-! the law: a turn -/
namespace M4
open PySem L2 DL
open N4 (top fDraw fMixed fSame dpD dpDs fitD fitDs toN toNs)
section
variable {n : Int} {K : DEnds} {x0 x1 x2 x3 x4 x5 x6 x7 x8 x9 x10 x11 x12 x13 x14 x15 x16 x17 x18 x19 x20 x21 x22 x23 x24 x25 x26 x27 x28 x29 : Option Dat}
theorem tn_rg (c w b : Nat) (l : List Int) : toN (.tup [.int c, .tup [.int w, .int b, .own (il l)]]) = toN (rg c w b l) := rfl
theorem w_v5 {c w b m : Nat} {body : List Int} {y3 y9 yg G : Dat} (r : Rg c w b (b * m) (frL w b m c (mkI w 0 body))) (m2 : 2 ≤ m) (m9 : m ≤ 12) (hb : body.length ≤ 6) (hbd : wds w body = true) (hs : body.length + 9 ≤ b * m) (h3 : y3.sh = rg c w b (frL w b m c (mkI w 0 body))) (h9 : y9.sh = .lst (il (mkI w 0 body))) (hg : yg.sh = G) (hG : Sq G (il (mkI w 0 body))) (h0 : 0 ≤ n) (hn : n + 3000 < 1000000)
    (k : ∀ z3 z4 z5 z6 z7 z8 z9 z10 z11 z12 z13 z14 z15 z16 z17 z18 z19 z20 z21 z22 z23 z24 z25 z26 z27 z28 z29 n', n ≤ n' → n' ≤ n + 1600 → K.nx [x0, some .strm, x2, z3, z4, z5, z6, z7, z8, z9, z10, z11, z12, z13, z14, z15, z16, z17, z18, z19, z20, z21, z22, z23, z24, z25, z26, z27, z28, z29] n') :
    v_5 K [x0, some .strm, x2, some y3, some (.int c), some (.int w), some (.int b), x7, some (.int ((b * m : Nat) : Int)), some y9, some (.int m), some yg, x12, x13, x14, x15, x16, x17, x18, x19, x20, x21, x22, x23, x24, x25, x26, x27, x28, x29] n := by
  generalize hFL : frL w b m c (mkI w 0 body) = FL at *
  have w4 := r.w4
  have w8 := r.w8
  have on15 := on_pos w4
  have g := mkI_good (v := 0) w4 (by omega) hb
  have gw := mkI_wd (v := 0) w4 (by omega) (by omega) hb hbd
  have li : (mkI w 0 body).length = body.length + 5 := rfl
  have cl := r.len_le
  have rr : (rg c w b FL).sh = rg c w b FL := rg_sh ..
  have f := fit_hd (h := rg c w b FL) (c := c) (w := w) (b := b) (.inr rfl) (.inr rfl) (.inl rfl) (by omega)
  have gs := sq_sh hG (il_shs _)
  have pg := pl_sq hG (pls_il _)
  have pi : (Dat.lst (il (mkI w 0 body))).pl = true := pls_il _
  have p1 : pls [.int w, .int b, .int m, .int c, G] = true := by unfold pls pls pls pls pls pls; rw [pg]; rfl
  have p2 : pls [.int c, .int m, .int b, .int w, .lst (il (mkI w 0 body))] = true := by unfold pls pls pls pls pls pls; rw [pi]; rfl
  have cl1 : (Dat.tup [.int c, .tup [.int w, .int b, .own (il FL)]]).clos = true := by simp [Dat.clos, closs, il_closs]
  have pl1 : (Dat.tup [.int c, .tup [.int w, .int b, .own (il FL)]]).pl = true := by simp [Dat.pl, pls, pls_il]
  unfold v_5
  simp! [h3, h9, hg, rr]
  refine ⟨rfl, rg c w b FL, rfl, ⟨by rw [rr]; omega, by rw [rr]; exact f.1⟩, [.int w, .int b, .int m, .int c, G], [.int c, .int m, .int b, .int w, .lst (il (mkI w 0 body))], rfl, rfl, ⟨p1, p2⟩, fun k' => ?_, fun k' => ?_, ?_⟩
  · simp! [gs]
    refine w_36 hG r.c2 r.c5 w4 w8 r.b3 r.b8 m2 m9 (by omega) gw g ?_
    rw [hFL]
    exact ⟨cl1, pl1, by rw [rr]; exact tn_rg ..⟩
  · simp! [il_shs]
    refine w_36 (.inl rfl) r.c2 r.c5 w4 w8 r.b3 r.b8 m2 m9 (by omega) gw g ?_
    rw [hFL]
    exact ⟨cl1, pl1, by rw [rr]; exact tn_rg ..⟩
  · simp!
    exact w_v6 r h3 h0 hn fun z3 z4 z5 z6 z7 z8 z12 z13 z14 x15 x16 x17 x18 x19 x20 x21 x22 x23 x24 x25 x26 x27 x28 x29 n' q1 q2 => k _ _ _ _ _ _ _ _ _ _ _ _ _ _ _ _ _ _ _ _ _ _ _ _ _ _ _ _ q1 q2
end
end M4
set_option Elab.async false
set_option linter.all false
set_option maxRecDepth 100000
set_option maxHeartbeats 4000000
/-! the law: all turns -/
namespace M4
open PySem L2 DL
open N4 (top fDraw fMixed fSame dpD dpDs fitD fitDs toN toNs)
section
variable {n : Int} {K : DEnds} {x0 x1 x2 x3 x4 x5 x6 x7 x8 x9 x10 x11 x12 x13 x14 x15 x16 x17 x18 x19 x20 x21 x22 x23 x24 x25 x26 x27 x28 x29 : Option Dat}
theorem lo_im {l : List Int} {x : Dat} (h : lo (.lst (il l)) x) : Sq x (il l) := by
  unfold lo at h
  obtain ⟨q, hq, h⟩ := h
  have h := los_il l q h
  subst h
  exact hq
theorem w_v2 {c w b m : Nat} {body : List Int} {y3 y7 : Dat} (r : Rg c w b (b * m) (frL w b m c (mkI w 0 body))) (m2 : 2 ≤ m) (m9 : m ≤ 12) (hb : body.length ≤ 6) (hbd : wds w body = true) (hs : body.length + 9 ≤ b * m) (h3 : y3.sh = rg c w b (frL w b m c (mkI w 0 body))) (h7 : y7.sh = .lst (il (frL w b m c (mkI w 0 body)))) (h0 : 0 ≤ n) (hn : n + 4000 < 1000000)
    (k : ∀ z3 z4 z5 z6 z7 z8 z9 z10 z11 z12 z13 z14 z15 z16 z17 z18 z19 z20 z21 z22 z23 z24 z25 z26 z27 z28 z29 n', n ≤ n' → n' ≤ n + 1700 → K.nx [x0, some .strm, x2, z3, z4, z5, z6, z7, z8, z9, z10, z11, z12, z13, z14, z15, z16, z17, z18, z19, z20, z21, z22, z23, z24, z25, z26, z27, z28, z29] n') :
    v_2 K [x0, some .strm, x2, some y3, some (.int c), some (.int w), some (.int b), some y7, x8, x9, x10, x11, x12, x13, x14, x15, x16, x17, x18, x19, x20, x21, x22, x23, x24, x25, x26, x27, x28, x29] n := by
  have c2 := r.c2
  have c5 := r.c5
  have b3 := r.b3
  have b8 := r.b8
  have im := fr_img (c := c) r.w4 r.w8 hb hs
  have sz := r.size
  have go : ∀ (y3 : Dat) (x7 : Option Dat) (yg : Dat) (y9 : Dat) (m' : Int), y3.sh = rg c w b (frL w b m c (mkI w 0 body)) → y9.sh = .lst (il (mkI w 0 body)) → Sq yg.sh (il (mkI w 0 body)) → n ≤ m' → m' ≤ n + 10 → v_5 K [x0, some .strm, x2, some y3, some (.int c), some (.int w), some (.int b), x7, some (.int ((b * m : Nat) : Int)), some y9, some (.int m), some yg, x12, x13, x14, x15, x16, x17, x18, x19, x20, x21, x22, x23, x24, x25, x26, x27, x28, x29] m' := fun y3 x7 yg y9 m' e3 e9 eg q1 q2 =>
    w_v5 r m2 m9 hb hbd hs e3 e9 rfl eg (by omega) (by omega) fun z3 z4 z5 z6 z7 z8 z9 z10 z11 z12 z13 z14 z15 z16 z17 z18 z19 z20 z21 z22 z23 z24 z25 z26 z27 z28 z29 n' a1 a2 => k _ _ _ _ _ _ _ _ _ _ _ _ _ _ _ _ _ _ _ _ _ _ _ _ _ _ _ _ (by omega) (by omega)
  have w67 : ∀ Q : Dat → Int → Prop, Q (.lst (il (mkI w 0 body))) n → f_67 [rg c w b (frL w b m c (mkI w 0 body)), .int 0] n Q := fun Q q => w_67 (i := 0) r (by omega) (by rw [im]; exact q)
  generalize hFL : frL w b m c (mkI w 0 body) = FL at *
  have rr : (rg c w b FL).sh = rg c w b FL := rg_sh ..
  have fi := fit_sq (k := 1000) (m := 0) (d := .lst (il (mkI w 0 body))) (.inl rfl) (by rw [il_len, mkI_len]; omega) (fit_il _) (by rw [dp_il]; exact Nat.le_refl _)
  have ndi : nd (.lst (il (mkI w 0 body))) = 1 := by unfold nd; rw [nds_il]
  have e2 : ((b * m : Nat) : Int) / (b : Int) = (m : Int) := by
    rw [← Int.natCast_ediv, Nat.mul_div_cancel_left _ (by omega)]
  unfold v_2
  simp! [h7, il_len, sz]
  refine ⟨⟨by omega, by omega⟩, ?_⟩
  simp! [h3, rr]
  refine w67 _ ?_
  simp! [h3, rr, e2]
  refine ⟨⟨by omega, by omega⟩, _, rfl, ⟨by omega, fi.1, by rw [ndi]; omega⟩, fun d hd hds => ?_⟩
  rw [ndi]
  rw [hds] at hd
  have sq := lo_im hd
  rcases Bool.eq_false_or_eq_true d.clos with c1 | c1
  all_goals
    simp! [c1, h3, rr]
    exact go _ _ _ _ _ (by first | exact h3 | exact rr) rfl (by rw [hds]; exact sq) (by omega) (by omega)
theorem w_v0 (h0 : 0 ≤ n) (hn : n + 5000 < 1000000) (k : ∀ z3 z4 z5 z6 z7 z8 z9 z10 z11 z12 z13 z14 z15 z16 z17 z18 z19 z20 z21 z22 z23 z24 z25 z26 z27 z28 z29 n', n ≤ n' → n' ≤ n + 1800 → K.nx [x0, some .strm, x2, z3, z4, z5, z6, z7, z8, z9, z10, z11, z12, z13, z14, z15, z16, z17, z18, z19, z20, z21, z22, z23, z24, z25, z26, z27, z28, z29] n') :
    v_0 K [x0, some .strm, x2, x3, x4, x5, x6, x7, x8, x9, x10, x11, x12, x13, x14, x15, x16, x17, x18, x19, x20, x21, x22, x23, x24, x25, x26, x27, x28, x29] n := by
  unfold v_0
  simp!
  refine w_74 h0 (by omega) fun c w b m body n' n1 n2 c2 c5 w4 w8 b3 b8 m2 m9 hb hbd hs => ?_
  have on15 := on_pos w4
  have r := frL_rg (im := mkI w 0 body) c2 c5 w4 w8 b3 b8 m2 m9 (by rw [mkI_len]; omega) (mkI_wd w4 (by omega) (by omega) hb hbd)
  have go : ∀ (y3 y7 : Dat), y3.sh = rg c w b (frL w b m c (mkI w 0 body)) → y7.sh = .lst (il (frL w b m c (mkI w 0 body))) → v_2 K [x0, some .strm, x2, some y3, some (.int c), some (.int w), some (.int b), some y7, x8, x9, x10, x11, x12, x13, x14, x15, x16, x17, x18, x19, x20, x21, x22, x23, x24, x25, x26, x27, x28, x29] n' := fun y3 y7 e3 e7 =>
    w_v2 r m2 m9 hb hbd hs e3 e7 (by omega) (by omega) fun z3 z4 z5 z6 z7 z8 z9 z10 z11 z12 z13 z14 z15 z16 z17 z18 z19 z20 z21 z22 z23 z24 z25 z26 z27 z28 z29 n'' a1 a2 => k _ _ _ _ _ _ _ _ _ _ _ _ _ _ _ _ _ _ _ _ _ _ _ _ _ _ _ _ (by omega) (by omega)
  generalize hFL : frL w b m c (mkI w 0 body) = FL at *
  simp! [il_shs, il_closs]
  exact go _ _ rfl rfl
theorem law_ok : b_75 (endD fun d _ => d = .bl true) (N4.lawD 28) 0 := by
  unfold b_75
  rw [v0_eq]
  unfold N4.lawD
  simp!
  refine ⟨by decide, by decide, ?_⟩
  refine for_inv (fun q D m => ∃ x2 z3 z4 z5 z6 z7 z8 z9 z10 z11 z12 z13 z14 z15 z16 z17 z18 z19 z20 z21 z22 z23 z24 z25 z26 z27 z28 z29 : Option Dat, q.length ≤ 3 ∧ 0 ≤ m ∧ m + 5000 * q.length ≤ 15000 ∧ D = [none, some .strm, x2, z3, z4, z5, z6, z7, z8, z9, z10, z11, z12, z13, z14, z15, z16, z17, z18, z19, z20, z21, z22, z23, z24, z25, z26, z27, z28, z29]) ?_ ?_ _ _ _ ⟨none, none, none, none, none, none, none, none, none, none, none, none, none, none, none, none, none, none, none, none, none, none, none, none, none, none, none, none, by decide, by decide, by decide, rfl⟩
  · rintro D m ⟨x2, z3, z4, z5, z6, z7, z8, z9, z10, z11, z12, z13, z14, z15, z16, z17, z18, z19, z20, z21, z22, z23, z24, z25, z26, z27, z28, z29, _, _, _, rfl⟩
    simp!
  · rintro d q nx hN D m ⟨x2, z3, z4, z5, z6, z7, z8, z9, z10, z11, z12, z13, z14, z15, z16, z17, z18, z19, z20, z21, z22, z23, z24, z25, z26, z27, z28, z29, q1, q2, q3, rfl⟩
    rw [List.length_cons] at q1 q3
    simp!
    refine w_v0 q2 (by omega) fun y3 y4 y5 y6 y7 y8 y9 y10 y11 y12 y13 y14 y15 y16 y17 y18 y19 y20 y21 y22 y23 y24 y25 y26 y27 y28 y29 n' a1 a2 => ?_
    exact hN _ _ ⟨_, y3, y4, y5, y6, y7, y8, y9, y10, y11, y12, y13, y14, y15, y16, y17, y18, y19, y20, y21, y22, y23, y24, y25, y26, y27, y28, y29, by omega, by omega, by omega, rfl⟩
end
end M4
set_option Elab.async false
set_option linter.all false
set_option maxRecDepth 100000
set_option maxHeartbeats 4000000
namespace M4
open PySem PySem.Spec PyProof.Rows L2 LiI RZ DL
open PySem.W hiding Dat
open N4 (top fDraw fMixed fSame)
section
variable {P : Program} {w : World} {K : PySem.W.Frag} {mg : Str → Option Value} {h : Heap}
theorem fun_of {x qu : Str} {st : Stmt} {f : Addr} {fd : FuncData} (F : FunD K x qu (defArgs st) (defBody st) (defScope st) [] [] f fd) : Fun K x qu st f fd := by
  obtain ⟨oc, od, dV, kV, doc, pm, an, cdv, ct, osl, rfl, lk, hcd, hD, hK⟩ := F.ex
  rcases hD with ⟨_, rfl⟩ | ⟨e, _⟩
  · exact ⟨⟨oc, od, kV, doc, pm, an, cdv, ct, osl, rfl, lk, hcd⟩, F.kp⟩
  · exact absurd rfl e
theorem code_of {x qu : Str} {st : Stmt} {fd : FuncData} (F : Fun K x qu st (He.fAd K (x, none)) fd) : fd.code = .ref (He.codeOf K (x, none)) := by
  obtain ⟨oc, od, kV, doc, pm, an, cdv, ct, osl, rfl, lk, hcd⟩ := F.ex
  obtain ⟨c, rfl⟩ := He.codeIn_ref hcd
  rw [He.codeOf_eq (p := (x, none)) lk rfl]

theorem all_facts (X : K.In h) (G : h.Ns mainGlobals mg) (c : He.SaysX H4.fa H4.fn [] H4.tf (fun _ => true) w h K) {fa : Addr} (hfa : mg ("law" : Str) = some (.ref fa)) :
    ∃ fd : FuncData, (∀ (s : Shared) (u : Value), BindsTo s fd ⟨[u], []⟩ [("script", u)]) ∧ ∀ [TabsOf] (base : Heap), LamX.TabB base mg (He.codeOf K ("law", none)) (He.tabOf K (He.codeOf K ("law", none))) → TabsOf.T = [(He.tabOf K (He.codeOf K ("law", none)), ("law.<locals>.<lambda>" : Str))] → FnOk P w K mg base CX0 22 fa fd ["script"] (N4.spLawT K) := by
  obtain ⟨fd1, F1⟩ := c.t.d.def_ 0 (d := H4.d_1) rfl
  have F1 := fun_of (x := "is_list") (qu := "is_list") (st := top 1) F1
  have g1 : mg "is_list" = some (.ref (He.fAd K ("is_list", none))) := He.glo_ok X G (c.t.d.fact 0 (f := .glo "is_list") rfl)
  obtain ⟨fd2, F2⟩ := c.t.d.def_ 1 (d := H4.d_2) rfl
  have F2 := fun_of (x := "is_whole") (qu := "is_whole") (st := top 2) F2
  have g2 : mg "is_whole" = some (.ref (He.fAd K ("is_whole", none))) := He.glo_ok X G (c.t.d.fact 1 (f := .glo "is_whole") rfl)
  obtain ⟨fd3, F3⟩ := c.t.d.def_ 2 (d := H4.d_3) rfl
  have F3 := fun_of (x := "is_number") (qu := "is_number") (st := top 3) F3
  have g3 : mg "is_number" = some (.ref (He.fAd K ("is_number", none))) := He.glo_ok X G (c.t.d.fact 2 (f := .glo "is_number") rfl)
  obtain ⟨fd4, F4⟩ := c.t.d.def_ 3 (d := H4.d_4) rfl
  have F4 := fun_of (x := "is_below") (qu := "is_below") (st := top 4) F4
  have g4 : mg "is_below" = some (.ref (He.fAd K ("is_below", none))) := He.glo_ok X G (c.t.d.fact 3 (f := .glo "is_below") rfl)
  obtain ⟨fd5, F5⟩ := c.t.d.def_ 4 (d := H4.d_5) rfl
  have F5 := fun_of (x := "is_row") (qu := "is_row") (st := top 5) F5
  have g5 : mg "is_row" = some (.ref (He.fAd K ("is_row", none))) := He.glo_ok X G (c.t.d.fact 4 (f := .glo "is_row") rfl)
  obtain ⟨fd15, F15⟩ := c.t.d.def_ 5 (d := H4.d_15) rfl
  have F15 := fun_of (x := "need_width") (qu := "need_width") (st := top 15) F15
  have g15 : mg "need_width" = some (.ref (He.fAd K ("need_width", none))) := He.glo_ok X G (c.t.d.fact 5 (f := .glo "need_width") rfl)
  obtain ⟨fd16, F16⟩ := c.t.d.def_ 6 (d := H4.d_16) rfl
  have F16 := fun_of (x := "ones") (qu := "ones") (st := top 16) F16
  have g16 : mg "ones" = some (.ref (He.fAd K ("ones", none))) := He.glo_ok X G (c.t.d.fact 6 (f := .glo "ones") rfl)
  obtain ⟨fd17, F17⟩ := c.t.d.def_ 7 (d := H4.d_17) rfl
  have F17 := fun_of (x := "are_words") (qu := "are_words") (st := top 17) F17
  have g17 : mg "are_words" = some (.ref (He.fAd K ("are_words", none))) := He.glo_ok X G (c.t.d.fact 7 (f := .glo "are_words") rfl)
  obtain ⟨fd18, F18⟩ := c.t.d.def_ 8 (d := H4.d_18) rfl
  have F18 := fun_of (x := "sums_by") (qu := "sums_by") (st := top 18) F18
  have g18 : mg "sums_by" = some (.ref (He.fAd K ("sums_by", none))) := He.glo_ok X G (c.t.d.fact 8 (f := .glo "sums_by") rfl)
  obtain ⟨fd19, F19⟩ := c.t.d.def_ 9 (d := H4.d_19) rfl
  have F19 := fun_of (x := "why_not") (qu := "why_not") (st := top 19) F19
  have g19 : mg "why_not" = some (.ref (He.fAd K ("why_not", none))) := He.glo_ok X G (c.t.d.fact 9 (f := .glo "why_not") rfl)
  obtain ⟨fd21, F21⟩ := c.t.d.def_ 10 (d := H4.d_21) rfl
  have F21 := fun_of (x := "kept_store") (qu := "kept_store") (st := top 21) F21
  have g21 : mg "kept_store" = some (.ref (He.fAd K ("kept_store", none))) := He.glo_ok X G (c.t.d.fact 10 (f := .glo "kept_store") rfl)
  obtain ⟨fd23, F23⟩ := c.t.d.def_ 11 (d := H4.d_23) rfl
  have F23 := fun_of (x := "mark_by") (qu := "mark_by") (st := top 23) F23
  have g23 : mg "mark_by" = some (.ref (He.fAd K ("mark_by", none))) := He.glo_ok X G (c.t.d.fact 11 (f := .glo "mark_by") rfl)
  obtain ⟨fd24, F24⟩ := c.t.d.def_ 12 (d := H4.d_24) rfl
  have F24 := fun_of (x := "need_image") (qu := "need_image") (st := top 24) F24
  have g24 : mg "need_image" = some (.ref (He.fAd K ("need_image", none))) := He.glo_ok X G (c.t.d.fact 12 (f := .glo "need_image") rfl)
  obtain ⟨fd29, F29⟩ := c.t.d.def_ 13 (d := H4.d_29) rfl
  have F29 := fun_of (x := "kept_ring") (qu := "kept_ring") (st := top 29) F29
  have g29 : mg "kept_ring" = some (.ref (He.fAd K ("kept_ring", none))) := He.glo_ok X G (c.t.d.fact 13 (f := .glo "kept_ring") rfl)
  obtain ⟨fd30, F30⟩ := c.t.d.def_ 14 (d := H4.d_30) rfl
  have F30 := fun_of (x := "is_ring") (qu := "is_ring") (st := top 30) F30
  have g30 : mg "is_ring" = some (.ref (He.fAd K ("is_ring", none))) := He.glo_ok X G (c.t.d.fact 14 (f := .glo "is_ring") rfl)
  obtain ⟨fd31, F31⟩ := c.t.d.def_ 15 (d := H4.d_31) rfl
  have F31 := fun_of (x := "need_ring") (qu := "need_ring") (st := top 31) F31
  have g31 : mg "need_ring" = some (.ref (He.fAd K ("need_ring", none))) := He.glo_ok X G (c.t.d.fact 15 (f := .glo "need_ring") rfl)
  obtain ⟨fd32, F32⟩ := c.t.d.def_ 16 (d := H4.d_32) rfl
  have F32 := fun_of (x := "size_of") (qu := "size_of") (st := top 32) F32
  have g32 : mg "size_of" = some (.ref (He.fAd K ("size_of", none))) := He.glo_ok X G (c.t.d.fact 16 (f := .glo "size_of") rfl)
  obtain ⟨fd33, F33⟩ := c.t.d.def_ 17 (d := H4.d_33) rfl
  have F33 := fun_of (x := "cells_of") (qu := "cells_of") (st := top 33) F33
  have g33 : mg "cells_of" = some (.ref (He.fAd K ("cells_of", none))) := He.glo_ok X G (c.t.d.fact 17 (f := .glo "cells_of") rfl)
  obtain ⟨fd34, F34⟩ := c.t.d.def_ 18 (d := H4.d_34) rfl
  have F34 := fun_of (x := "image_in") (qu := "image_in") (st := top 34) F34
  have g34 : mg "image_in" = some (.ref (He.fAd K ("image_in", none))) := He.glo_ok X G (c.t.d.fact 18 (f := .glo "image_in") rfl)
  obtain ⟨fd35, F35⟩ := c.t.d.def_ 19 (d := H4.d_35) rfl
  have F35 := fun_of (x := "ring_image") (qu := "ring_image") (st := top 35) F35
  have g35 : mg "ring_image" = some (.ref (He.fAd K ("ring_image", none))) := He.glo_ok X G (c.t.d.fact 19 (f := .glo "ring_image") rfl)
  obtain ⟨fd36, F36⟩ := c.t.d.def_ 20 (d := H4.d_36) rfl
  have F36 := fun_of (x := "fresh_ring") (qu := "fresh_ring") (st := top 36) F36
  have g36 : mg "fresh_ring" = some (.ref (He.fAd K ("fresh_ring", none))) := He.glo_ok X G (c.t.d.fact 20 (f := .glo "fresh_ring") rfl)
  obtain ⟨fd37, F37⟩ := c.t.d.def_ 21 (d := H4.d_37) rfl
  have F37 := fun_of (x := "is_valid") (qu := "is_valid") (st := top 37) F37
  have g37 : mg "is_valid" = some (.ref (He.fAd K ("is_valid", none))) := He.glo_ok X G (c.t.d.fact 21 (f := .glo "is_valid") rfl)
  obtain ⟨fd38, F38⟩ := c.t.d.def_ 22 (d := H4.d_38) rfl
  have F38 := fun_of (x := "is_good") (qu := "is_good") (st := top 38) F38
  have g38 : mg "is_good" = some (.ref (He.fAd K ("is_good", none))) := He.glo_ok X G (c.t.d.fact 22 (f := .glo "is_good") rfl)
  obtain ⟨fd39, F39⟩ := c.t.d.def_ 23 (d := H4.d_39) rfl
  have F39 := fun_of (x := "can_run") (qu := "can_run") (st := top 39) F39
  have g39 : mg "can_run" = some (.ref (He.fAd K ("can_run", none))) := He.glo_ok X G (c.t.d.fact 23 (f := .glo "can_run") rfl)
  obtain ⟨fd40, F40⟩ := c.t.d.def_ 24 (d := H4.d_40) rfl
  have F40 := fun_of (x := "run_by") (qu := "run_by") (st := top 40) F40
  have g40 : mg "run_by" = some (.ref (He.fAd K ("run_by", none))) := He.glo_ok X G (c.t.d.fact 24 (f := .glo "run_by") rfl)
  obtain ⟨fd41, F41⟩ := c.t.d.def_ 25 (d := H4.d_41) rfl
  have F41 := fun_of (x := "ring_run") (qu := "ring_run") (st := top 41) F41
  have g41 : mg "ring_run" = some (.ref (He.fAd K ("ring_run", none))) := He.glo_ok X G (c.t.d.fact 25 (f := .glo "ring_run") rfl)
  obtain ⟨fd42, F42⟩ := c.t.d.def_ 26 (d := H4.d_42) rfl
  have F42 := fun_of (x := "why_of") (qu := "why_of") (st := top 42) F42
  have g42 : mg "why_of" = some (.ref (He.fAd K ("why_of", none))) := He.glo_ok X G (c.t.d.fact 26 (f := .glo "why_of") rfl)
  obtain ⟨fd43, F43⟩ := c.t.d.def_ 27 (d := H4.d_43) rfl
  have F43 := fun_of (x := "ring_why") (qu := "ring_why") (st := top 43) F43
  have g43 : mg "ring_why" = some (.ref (He.fAd K ("ring_why", none))) := He.glo_ok X G (c.t.d.fact 27 (f := .glo "ring_why") rfl)
  obtain ⟨fd45, F45⟩ := c.t.d.def_ 28 (d := H4.d_45) rfl
  have F45 := fun_of (x := "_law_stream") (qu := "_law_stream") (st := top 45) F45
  have g45 : mg "_law_stream" = some (.ref (He.fAd K ("_law_stream", none))) := He.glo_ok X G (c.t.d.fact 28 (f := .glo "_law_stream") rfl)
  obtain ⟨fd46, F46⟩ := c.t.d.def_ 29 (d := H4.d_46) rfl
  have F46 := fun_of (x := "_law_draw") (qu := "_law_draw") (st := top 46) F46
  have g46 : mg "_law_draw" = some (.ref (He.fAd K ("_law_draw", none))) := He.glo_ok X G (c.t.d.fact 29 (f := .glo "_law_draw") rfl)
  obtain ⟨fd47, F47⟩ := c.t.d.def_ 30 (d := H4.d_47) rfl
  have F47 := fun_of (x := "_law_pick") (qu := "_law_pick") (st := top 47) F47
  have g47 : mg "_law_pick" = some (.ref (He.fAd K ("_law_pick", none))) := He.glo_ok X G (c.t.d.fact 30 (f := .glo "_law_pick") rfl)
  obtain ⟨fd48, F48⟩ := c.t.d.def_ 31 (d := H4.d_48) rfl
  have F48 := fun_of (x := "_law_mixed") (qu := "_law_mixed") (st := top 48) F48
  have g48 : mg "_law_mixed" = some (.ref (He.fAd K ("_law_mixed", none))) := He.glo_ok X G (c.t.d.fact 31 (f := .glo "_law_mixed") rfl)
  obtain ⟨fd49, F49⟩ := c.t.d.def_ 32 (d := H4.d_49) rfl
  have F49 := fun_of (x := "_law_same") (qu := "_law_same") (st := top 49) F49
  have g49 : mg "_law_same" = some (.ref (He.fAd K ("_law_same", none))) := He.glo_ok X G (c.t.d.fact 32 (f := .glo "_law_same") rfl)
  obtain ⟨fd50, F50⟩ := c.t.d.def_ 33 (d := H4.d_50) rfl
  have F50 := fun_of (x := "_law_spoilt") (qu := "_law_spoilt") (st := top 50) F50
  have g50 : mg "_law_spoilt" = some (.ref (He.fAd K ("_law_spoilt", none))) := He.glo_ok X G (c.t.d.fact 33 (f := .glo "_law_spoilt") rfl)
  obtain ⟨fd51, F51⟩ := c.t.d.def_ 34 (d := H4.d_51) rfl
  have F51 := fun_of (x := "_law_copied") (qu := "_law_copied") (st := top 51) F51
  have g51 : mg "_law_copied" = some (.ref (He.fAd K ("_law_copied", none))) := He.glo_ok X G (c.t.d.fact 34 (f := .glo "_law_copied") rfl)
  obtain ⟨fd52, F52⟩ := c.t.d.def_ 35 (d := H4.d_52) rfl
  have F52 := fun_of (x := "_law_loose") (qu := "_law_loose") (st := top 52) F52
  have g52 : mg "_law_loose" = some (.ref (He.fAd K ("_law_loose", none))) := He.glo_ok X G (c.t.d.fact 35 (f := .glo "_law_loose") rfl)
  obtain ⟨fd53, F53⟩ := c.t.d.def_ 36 (d := H4.d_53) rfl
  have F53 := fun_of (x := "_law_twice") (qu := "_law_twice") (st := top 53) F53
  have g53 : mg "_law_twice" = some (.ref (He.fAd K ("_law_twice", none))) := He.glo_ok X G (c.t.d.fact 36 (f := .glo "_law_twice") rfl)
  obtain ⟨fd54, F54⟩ := c.t.d.def_ 37 (d := H4.d_54) rfl
  have F54 := fun_of (x := "_law_is_number") (qu := "_law_is_number") (st := top 54) F54
  have g54 : mg "_law_is_number" = some (.ref (He.fAd K ("_law_is_number", none))) := He.glo_ok X G (c.t.d.fact 37 (f := .glo "_law_is_number") rfl)
  obtain ⟨fd55, F55⟩ := c.t.d.def_ 38 (d := H4.d_55) rfl
  have F55 := fun_of (x := "_law_f_sums") (qu := "_law_f_sums") (st := top 55) F55
  have g55 : mg "_law_f_sums" = some (.ref (He.fAd K ("_law_f_sums", none))) := He.glo_ok X G (c.t.d.fact 38 (f := .glo "_law_f_sums") rfl)
  obtain ⟨fd56, F56⟩ := c.t.d.def_ 39 (d := H4.d_56) rfl
  have F56 := fun_of (x := "_law_f_mark") (qu := "_law_f_mark") (st := top 56) F56
  have g56 : mg "_law_f_mark" = some (.ref (He.fAd K ("_law_f_mark", none))) := He.glo_ok X G (c.t.d.fact 39 (f := .glo "_law_f_mark") rfl)
  obtain ⟨fd57, F57⟩ := c.t.d.def_ 40 (d := H4.d_57) rfl
  have F57 := fun_of (x := "_law_f_image") (qu := "_law_f_image") (st := top 57) F57
  have g57 : mg "_law_f_image" = some (.ref (He.fAd K ("_law_f_image", none))) := He.glo_ok X G (c.t.d.fact 40 (f := .glo "_law_f_image") rfl)
  obtain ⟨fd58, F58⟩ := c.t.d.def_ 41 (d := H4.d_58) rfl
  have F58 := fun_of (x := "_law_f_ones") (qu := "_law_f_ones") (st := top 58) F58
  have g58 : mg "_law_f_ones" = some (.ref (He.fAd K ("_law_f_ones", none))) := He.glo_ok X G (c.t.d.fact 41 (f := .glo "_law_f_ones") rfl)
  obtain ⟨fd59, F59⟩ := c.t.d.def_ 42 (d := H4.d_59) rfl
  have F59 := fun_of (x := "_law_f_fresh") (qu := "_law_f_fresh") (st := top 59) F59
  have g59 : mg "_law_f_fresh" = some (.ref (He.fAd K ("_law_f_fresh", none))) := He.glo_ok X G (c.t.d.fact 42 (f := .glo "_law_f_fresh") rfl)
  obtain ⟨fd60, F60⟩ := c.t.d.def_ 43 (d := H4.d_60) rfl
  have F60 := fun_of (x := "_law_f_and") (qu := "_law_f_and") (st := top 60) F60
  have g60 : mg "_law_f_and" = some (.ref (He.fAd K ("_law_f_and", none))) := He.glo_ok X G (c.t.d.fact 43 (f := .glo "_law_f_and") rfl)
  obtain ⟨fd61, F61⟩ := c.t.d.def_ 44 (d := H4.d_61) rfl
  have F61 := fun_of (x := "_law_f_done") (qu := "_law_f_done") (st := top 61) F61
  have g61 : mg "_law_f_done" = some (.ref (He.fAd K ("_law_f_done", none))) := He.glo_ok X G (c.t.d.fact 44 (f := .glo "_law_f_done") rfl)
  obtain ⟨fd62, F62⟩ := c.t.d.def_ 45 (d := H4.d_62) rfl
  have F62 := fun_of (x := "_law_f_torn") (qu := "_law_f_torn") (st := top 62) F62
  have g62 : mg "_law_f_torn" = some (.ref (He.fAd K ("_law_f_torn", none))) := He.glo_ok X G (c.t.d.fact 45 (f := .glo "_law_f_torn") rfl)
  obtain ⟨fd63, F63⟩ := c.t.d.def_ 46 (d := H4.d_63) rfl
  have F63 := fun_of (x := "_law_f_cut") (qu := "_law_f_cut") (st := top 63) F63
  have g63 : mg "_law_f_cut" = some (.ref (He.fAd K ("_law_f_cut", none))) := He.glo_ok X G (c.t.d.fact 46 (f := .glo "_law_f_cut") rfl)
  obtain ⟨fd64, F64⟩ := c.t.d.def_ 47 (d := H4.d_64) rfl
  have F64 := fun_of (x := "_law_f_is_torn") (qu := "_law_f_is_torn") (st := top 64) F64
  have g64 : mg "_law_f_is_torn" = some (.ref (He.fAd K ("_law_f_is_torn", none))) := He.glo_ok X G (c.t.d.fact 47 (f := .glo "_law_f_is_torn") rfl)
  obtain ⟨fd65, F65⟩ := c.t.d.def_ 48 (d := H4.d_65) rfl
  have F65 := fun_of (x := "_law_g_drawn_image") (qu := "_law_g_drawn_image") (st := top 65) F65
  have g65 : mg "_law_g_drawn_image" = some (.ref (He.fAd K ("_law_g_drawn_image", none))) := He.glo_ok X G (c.t.d.fact 48 (f := .glo "_law_g_drawn_image") rfl)
  obtain ⟨fd66, F66⟩ := c.t.d.def_ 49 (d := H4.d_66) rfl
  have F66 := fun_of (x := "_law_g_cells") (qu := "_law_g_cells") (st := top 66) F66
  have g66 : mg "_law_g_cells" = some (.ref (He.fAd K ("_law_g_cells", none))) := He.glo_ok X G (c.t.d.fact 49 (f := .glo "_law_g_cells") rfl)
  obtain ⟨fd67, F67⟩ := c.t.d.def_ 50 (d := H4.d_67) rfl
  have F67 := fun_of (x := "_law_g_image") (qu := "_law_g_image") (st := top 67) F67
  have g67 : mg "_law_g_image" = some (.ref (He.fAd K ("_law_g_image", none))) := He.glo_ok X G (c.t.d.fact 50 (f := .glo "_law_g_image") rfl)
  obtain ⟨fd68, F68⟩ := c.t.d.def_ 51 (d := H4.d_68) rfl
  have F68 := fun_of (x := "_law_g_fresh") (qu := "_law_g_fresh") (st := top 68) F68
  have g68 : mg "_law_g_fresh" = some (.ref (He.fAd K ("_law_g_fresh", none))) := He.glo_ok X G (c.t.d.fact 51 (f := .glo "_law_g_fresh") rfl)
  obtain ⟨fd69, F69⟩ := c.t.d.def_ 52 (d := H4.d_69) rfl
  have F69 := fun_of (x := "_law_g_whys") (qu := "_law_g_whys") (st := top 69) F69
  have g69 : mg "_law_g_whys" = some (.ref (He.fAd K ("_law_g_whys", none))) := He.glo_ok X G (c.t.d.fact 52 (f := .glo "_law_g_whys") rfl)
  obtain ⟨fd70, F70⟩ := c.t.d.def_ 53 (d := H4.d_70) rfl
  have F70 := fun_of (x := "_law_g_run") (qu := "_law_g_run") (st := top 70) F70
  have g70 : mg "_law_g_run" = some (.ref (He.fAd K ("_law_g_run", none))) := He.glo_ok X G (c.t.d.fact 53 (f := .glo "_law_g_run") rfl)
  obtain ⟨fd71, F71⟩ := c.t.d.def_ 54 (d := H4.d_71) rfl
  have F71 := fun_of (x := "_law_g_ops") (qu := "_law_g_ops") (st := top 71) F71
  have g71 : mg "_law_g_ops" = some (.ref (He.fAd K ("_law_g_ops", none))) := He.glo_ok X G (c.t.d.fact 54 (f := .glo "_law_g_ops") rfl)
  obtain ⟨fd72, F72⟩ := c.t.d.def_ 55 (d := H4.d_72) rfl
  have F72 := fun_of (x := "_law_g_step") (qu := "_law_g_step") (st := top 72) F72
  have g72 : mg "_law_g_step" = some (.ref (He.fAd K ("_law_g_step", none))) := He.glo_ok X G (c.t.d.fact 55 (f := .glo "_law_g_step") rfl)
  obtain ⟨fd73, F73⟩ := c.t.d.def_ 56 (d := H4.d_73) rfl
  have F73 := fun_of (x := "_law_g_events") (qu := "_law_g_events") (st := top 73) F73
  have g73 : mg "_law_g_events" = some (.ref (He.fAd K ("_law_g_events", none))) := He.glo_ok X G (c.t.d.fact 56 (f := .glo "_law_g_events") rfl)
  obtain ⟨fd74, F74⟩ := c.t.d.def_ 57 (d := H4.d_74) rfl
  have F74 := fun_of (x := "_law_g_ring") (qu := "_law_g_ring") (st := top 74) F74
  have g74 : mg "_law_g_ring" = some (.ref (He.fAd K ("_law_g_ring", none))) := He.glo_ok X G (c.t.d.fact 57 (f := .glo "_law_g_ring") rfl)
  obtain ⟨fd75, F75⟩ := c.t.d.def_ 58 (d := H4.d_75) rfl
  have F75 := fun_of (x := "law") (qu := "law") (st := top 75) F75
  have g75 : mg "law" = some (.ref (He.fAd K ("law", none))) := He.glo_ok X G (c.t.d.fact 58 (f := .glo "law") rfl)
  have m_isinstance : mg "isinstance" = none := He.free_ok X G (c.t.d.fact 59 (f := .free "isinstance") rfl)
  have m_len : mg "len" = none := He.free_ok X G (c.t.d.fact 60 (f := .free "len") rfl)
  have m_abs : mg "abs" = none := He.free_ok X G (c.t.d.fact 61 (f := .free "abs") rfl)
  have m_int : mg "int" = none := He.free_ok X G (c.t.d.fact 62 (f := .free "int") rfl)
  have m_all : mg "all" = none := He.free_ok X G (c.t.d.fact 63 (f := .free "all") rfl)
  have m_zip : mg "zip" = none := He.free_ok X G (c.t.d.fact 64 (f := .free "zip") rfl)
  have m_list : mg "list" = none := He.free_ok X G (c.t.d.fact 65 (f := .free "list") rfl)
  have m_tuple : mg "tuple" = none := He.free_ok X G (c.t.d.fact 66 (f := .free "tuple") rfl)
  have m_dict : mg "dict" = none := He.free_ok X G (c.t.d.fact 67 (f := .free "dict") rfl)
  have m_bool : mg "bool" = none := He.free_ok X G (c.t.d.fact 68 (f := .free "bool") rfl)
  have m_str : mg "str" = none := He.free_ok X G (c.t.d.fact 69 (f := .free "str") rfl)
  have m_range : mg "range" = none := He.free_ok X G (c.t.d.fact 70 (f := .free "range") rfl)
  have m_enumerate : mg "enumerate" = none := He.free_ok X G (c.t.d.fact 71 (f := .free "enumerate") rfl)
  have m_max : mg "max" = none := He.free_ok X G (c.t.d.fact 72 (f := .free "max") rfl)
  have m_min : mg "min" = none := He.free_ok X G (c.t.d.fact 73 (f := .free "min") rfl)
  have m_sum : mg "sum" = none := He.free_ok X G (c.t.d.fact 74 (f := .free "sum") rfl)
  cases hfa.symm.trans g75
  have b1 : Binds K fd1 ["thing"] [] := F1.binds fun _ _ _ _ _ _ us hl => match us, hl with | [_], _ => rfl
  have b2 : Binds K fd2 ["thing"] [] := F2.binds fun _ _ _ _ _ _ us hl => match us, hl with | [_], _ => rfl
  have b3 : Binds K fd3 ["thing"] [] := F3.binds fun _ _ _ _ _ _ us hl => match us, hl with | [_], _ => rfl
  have b4 : Binds K fd4 ["thing", "most"] [] := F4.binds fun _ _ _ _ _ _ us hl => match us, hl with | [_, _], _ => rfl
  have b5 : Binds K fd5 ["thing", "many"] [] := F5.binds fun _ _ _ _ _ _ us hl => match us, hl with | [_, _], _ => rfl
  have b15 : Binds K fd15 ["width"] [] := F15.binds fun _ _ _ _ _ _ us hl => match us, hl with | [_], _ => rfl
  have b16 : Binds K fd16 ["width"] [] := F16.binds fun _ _ _ _ _ _ us hl => match us, hl with | [_], _ => rfl
  have b17 : Binds K fd17 ["width", "thing"] [] := F17.binds fun _ _ _ _ _ _ us hl => match us, hl with | [_, _], _ => rfl
  have b18 : Binds K fd18 ["width", "words"] [] := F18.binds fun _ _ _ _ _ _ us hl => match us, hl with | [_, _], _ => rfl
  have b19 : Binds K fd19 ["width", "thing"] [] := F19.binds fun _ _ _ _ _ _ us hl => match us, hl with | [_, _], _ => rfl
  have b21 : Binds K fd21 ["thing"] [] := F21.binds fun _ _ _ _ _ _ us hl => match us, hl with | [_], _ => rfl
  have b23 : Binds K fd23 ["width"] [] := F23.binds fun _ _ _ _ _ _ us hl => match us, hl with | [_], _ => rfl
  have b24 : Binds K fd24 ["width", "image", "room"] [] := F24.binds fun _ _ _ _ _ _ us hl => match us, hl with | [_, _, _], _ => rfl
  have b29 : Binds K fd29 ["thing"] [] := F29.binds fun _ _ _ _ _ _ us hl => match us, hl with | [_], _ => rfl
  have b30 : Binds K fd30 ["thing"] [] := F30.binds fun _ _ _ _ _ _ us hl => match us, hl with | [_], _ => rfl
  have b31 : Binds K fd31 ["ring"] [] := F31.binds fun _ _ _ _ _ _ us hl => match us, hl with | [_], _ => rfl
  have b32 : Binds K fd32 ["ring"] [] := F32.binds fun _ _ _ _ _ _ us hl => match us, hl with | [_], _ => rfl
  have b33 : Binds K fd33 ["ring", "slot"] [] := F33.binds fun _ _ _ _ _ _ us hl => match us, hl with | [_, _], _ => rfl
  have b34 : Binds K fd34 ["ring", "slot"] [] := F34.binds fun _ _ _ _ _ _ us hl => match us, hl with | [_, _], _ => rfl
  have b35 : Binds K fd35 ["ring", "slot"] [] := F35.binds fun _ _ _ _ _ _ us hl => match us, hl with | [_, _], _ => rfl
  have b36 : Binds K fd36 ["width", "block", "blocks", "count", "image"] [] := F36.binds fun _ _ _ _ _ _ us hl => match us, hl with | [_, _, _, _, _], _ => rfl
  have b37 : Binds K fd37 ["ring", "slot"] [] := F37.binds fun _ _ _ _ _ _ us hl => match us, hl with | [_, _], _ => rfl
  have b38 : Binds K fd38 ["ring", "slot"] [] := F38.binds fun _ _ _ _ _ _ us hl => match us, hl with | [_, _], _ => rfl
  have b39 : Binds K fd39 ["ring", "slot"] [] := F39.binds fun _ _ _ _ _ _ us hl => match us, hl with | [_, _], _ => rfl
  have b40 : Binds K fd40 ["ring"] [] := F40.binds fun _ _ _ _ _ _ us hl => match us, hl with | [_], _ => rfl
  have b41 : Binds K fd41 ["ring"] [] := F41.binds fun _ _ _ _ _ _ us hl => match us, hl with | [_], _ => rfl
  have b42 : Binds K fd42 ["ring", "slot", "run"] [] := F42.binds fun _ _ _ _ _ _ us hl => match us, hl with | [_, _, _], _ => rfl
  have b43 : Binds K fd43 ["ring"] [] := F43.binds fun _ _ _ _ _ _ us hl => match us, hl with | [_], _ => rfl
  have b45 : Binds K fd45 ["script"] [] := F45.binds fun _ _ _ _ _ _ us hl => match us, hl with | [_], _ => rfl
  have b46 : Binds K fd46 ["stream", "many"] [] := F46.binds fun _ _ _ _ _ _ us hl => match us, hl with | [_, _], _ => rfl
  have b47 : Binds K fd47 ["stream", "things"] [] := F47.binds fun _ _ _ _ _ _ us hl => match us, hl with | [_, _], _ => rfl
  have b48 : Binds K fd48 ["stream", "things"] [] := F48.binds fun _ _ _ _ _ _ us hl => match us, hl with | [_, _], _ => rfl
  have b49 : Binds K fd49 ["found", "due"] [] := F49.binds fun _ _ _ _ _ _ us hl => match us, hl with | [_, _], _ => rfl
  have b50 : Binds K fd50 ["thing"] [] := F50.binds fun _ _ _ _ _ _ us hl => match us, hl with | [_], _ => rfl
  have b51 : Binds K fd51 ["thing"] [] := F51.binds fun _ _ _ _ _ _ us hl => match us, hl with | [_], _ => rfl
  have b52 : Binds K fd52 ["stream", "thing"] [] := F52.binds fun _ _ _ _ _ _ us hl => match us, hl with | [_, _], _ => rfl
  have b53 : Binds K fd53 ["due", "first", "other"] [] := F53.binds fun _ _ _ _ _ _ us hl => match us, hl with | [_, _, _], _ => rfl
  have b54 : Binds K fd54 ["thing", "most"] [] := F54.binds fun _ _ _ _ _ _ us hl => match us, hl with | [_, _], _ => rfl
  have b55 : Binds K fd55 ["width", "words"] [] := F55.binds fun _ _ _ _ _ _ us hl => match us, hl with | [_, _], _ => rfl
  have b56 : Binds K fd56 ["width"] [] := F56.binds fun _ _ _ _ _ _ us hl => match us, hl with | [_], _ => rfl
  have b57 : Binds K fd57 ["store", "slot"] [] := F57.binds fun _ _ _ _ _ _ us hl => match us, hl with | [_, _], _ => rfl
  have b58 : Binds K fd58 ["width"] [] := F58.binds fun _ _ _ _ _ _ us hl => match us, hl with | [_], _ => rfl
  have b59 : Binds K fd59 ["width", "block", "blocks", "image"] [] := F59.binds fun _ _ _ _ _ _ us hl => match us, hl with | [_, _, _, _], _ => rfl
  have b60 : Binds K fd60 ["one", "other"] [] := F60.binds fun _ _ _ _ _ _ us hl => match us, hl with | [_, _], _ => rfl
  have b61 : Binds K fd61 ["store", "op"] [] := F61.binds fun _ _ _ _ _ _ us hl => match us, hl with | [_, _], _ => rfl
  have b62 : Binds K fd62 ["stream", "store", "op"] [] := F62.binds fun _ _ _ _ _ _ us hl => match us, hl with | [_, _, _], _ => rfl
  have b63 : Binds K fd63 ["store", "ops", "index", "torn"] [] := F63.binds fun _ _ _ _ _ _ us hl => match us, hl with | [_, _, _, _], _ => rfl
  have b64 : Binds K fd64 ["store", "ops", "index", "torn"] [] := F64.binds fun _ _ _ _ _ _ us hl => match us, hl with | [_, _, _, _], _ => rfl
  have b65 : Binds K fd65 ["stream", "width", "version"] [] := F65.binds fun _ _ _ _ _ _ us hl => match us, hl with | [_, _, _], _ => rfl
  have b66 : Binds K fd66 ["ring", "slot"] [] := F66.binds fun _ _ _ _ _ _ us hl => match us, hl with | [_, _], _ => rfl
  have b67 : Binds K fd67 ["ring", "slot"] [] := F67.binds fun _ _ _ _ _ _ us hl => match us, hl with | [_, _], _ => rfl
  have b68 : Binds K fd68 ["width", "block", "blocks", "count", "image"] [] := F68.binds fun _ _ _ _ _ _ us hl => match us, hl with | [_, _, _, _, _], _ => rfl
  have b69 : Binds K fd69 ["ring"] [] := F69.binds fun _ _ _ _ _ _ us hl => match us, hl with | [_], _ => rfl
  have b70 : Binds K fd70 ["ring"] [] := F70.binds fun _ _ _ _ _ _ us hl => match us, hl with | [_], _ => rfl
  have b71 : Binds K fd71 ["ring", "run", "event"] [] := F71.binds fun _ _ _ _ _ _ us hl => match us, hl with | [_, _, _], _ => rfl
  have b72 : Binds K fd72 ["ring", "run", "event"] [] := F72.binds fun _ _ _ _ _ _ us hl => match us, hl with | [_, _, _], _ => rfl
  have b73 : Binds K fd73 ["stream", "ring", "many"] [] := F73.binds fun _ _ _ _ _ _ us hl => match us, hl with | [_, _, _], _ => rfl
  have b74 : Binds K fd74 ["stream"] [] := F74.binds fun _ _ _ _ _ _ us hl => match us, hl with | [_], _ => rfl
  refine ⟨fd75, fun s u => ?_, fun base TB hTT => ?_⟩
  · obtain ⟨oc, od, kV, doc, pm, an, cdv, ct, osl, rfl, lk, hcd⟩ := F75.ex
    exact .of_eq rfl
  have DT : Df P w K mg base "_law_stream" 1 ["script"] (N4.spStream K) := ⟨_, fd45, g45, F45.kp, b45, N4.ok_stream F45 m_list⟩
  have Ddraw0 : Df P w K mg base "_law_draw" 1 ["stream", "many"] (N4.spDraw) := ⟨_, fd46, g46, F46.kp, b46, N4.ok_draw F46 m_abs m_int⟩
  have D__law_draw : Df P w K mg base "_law_draw" 1 ["stream", "many"] (spD 2 fDraw) := ⟨_, fd46, g46, F46.kp, b46, N4.ok_drawD F46 m_abs m_int⟩
  have D__law_mixed : Df P w K mg base "_law_mixed" 2 ["stream", "things"] (spD 2 fMixed) := ⟨_, fd48, g48, F48.kp, b48, N4.ok_mixedD F48 Ddraw0 m_list m_range m_len⟩
  have Dsame0 : Df P w K mg base "_law_same" 8 ["found", "due"] (N4.spSame 6) := ⟨_, fd49, g49, F49.kp, b49, N4.ok_same F49 g49 b49 m_isinstance m_list m_tuple m_len m_all m_zip m_dict m_bool m_int m_str 6⟩
  have D__law_same : Df P w K mg base "_law_same" 8 ["found", "due"] (spD 2 fSame) := ⟨_, fd49, g49, F49.kp, b49, N4.ok_sameD (N4.ok_same F49 g49 b49 m_isinstance m_list m_tuple m_len m_all m_zip m_dict m_bool m_int m_str 6)⟩
  have D__law_copied : Df P w K mg base "_law_copied" 6 ["thing"] (spD 1 fCopied) := ⟨_, fd51, g51, F51.kp, b51, M4.ok_copied F51 g51 b51 m_dict m_isinstance m_list m_tuple 5⟩
  have Dcopied0 : Df P w K mg base "_law_copied" 7 ["thing"] (N4.spCopied 5) := ⟨_, fd51, g51, F51.kp, b51, N4.ok_copied F51 g51 b51 m_isinstance m_list m_tuple m_dict 5⟩
  have D__law_loose : Df P w K mg base "_law_loose" 7 ["stream", "thing"] (spD 2 fLoose) := ⟨_, fd52, g52, F52.kp, b52, M4.ok_loose F52 g52 b52 D__law_draw m_isinstance m_list m_tuple 5⟩
  have Dspoilt0 : Df P w K mg base "_law_spoilt" 7 ["thing"] (N4.spSpoilt 5) := ⟨_, fd50, g50, F50.kp, b50, N4.ok_spoilt F50 g50 b50 m_isinstance m_list m_tuple 5⟩
  have D_twice : Df P w K mg base "_law_twice" 21 ["due", "first", "other"] (N4.spTwice P w K mg base 20 5) := ⟨_, fd53, g53, F53.kp, b53, N4.ok_twice (k := 20) (n := 5) (m := 20) (by decide) (by decide) F53 Dcopied0 Dsame0 Dspoilt0⟩
  have OK_is_list : FnOk P w K mg base CX0 1 _ fd1 ["thing"] (spD 1 f_1) := ok_1 F1 m_isinstance m_list m_tuple
  have D_is_list : Df P w K mg base "is_list" 1 ["thing"] (spD 1 f_1) := ⟨_, fd1, g1, F1.kp, b1, OK_is_list⟩
  have OK_is_whole : FnOk P w K mg base CX0 1 _ fd2 ["thing"] (spD 1 f_2) := ok_2 F2 m_bool m_int m_isinstance
  have D_is_whole : Df P w K mg base "is_whole" 1 ["thing"] (spD 1 f_2) := ⟨_, fd2, g2, F2.kp, b2, OK_is_whole⟩
  have OK_is_number : FnOk P w K mg base CX0 2 _ fd3 ["thing"] (spD 1 f_3) := ok_3 F3 D_is_whole
  have D_is_number : Df P w K mg base "is_number" 2 ["thing"] (spD 1 f_3) := ⟨_, fd3, g3, F3.kp, b3, OK_is_number⟩
  have OK_is_below : FnOk P w K mg base CX0 3 _ fd4 ["thing", "most"] (spD 2 f_4) := ok_4 F4 D_is_number
  have D_is_below : Df P w K mg base "is_below" 3 ["thing", "most"] (spD 2 f_4) := ⟨_, fd4, g4, F4.kp, b4, OK_is_below⟩
  have OK_is_row : FnOk P w K mg base CX0 2 _ fd5 ["thing", "many"] (spD 2 f_5) := ok_5 F5 D_is_list m_len
  have D_is_row : Df P w K mg base "is_row" 2 ["thing", "many"] (spD 2 f_5) := ⟨_, fd5, g5, F5.kp, b5, OK_is_row⟩
  have OK_need_width : FnOk P w K mg base CX0 2 _ fd15 ["width"] (spD 1 f_15) := ok_15 F15 D_is_whole
  have D_need_width : Df P w K mg base "need_width" 2 ["width"] (spD 1 f_15) := ⟨_, fd15, g15, F15.kp, b15, OK_need_width⟩
  have OK_ones : FnOk P w K mg base CX0 1 _ fd16 ["width"] (spD 1 f_16) := ok_16 F16
  have D_ones : Df P w K mg base "ones" 1 ["width"] (spD 1 f_16) := ⟨_, fd16, g16, F16.kp, b16, OK_ones⟩
  have OK_are_words : FnOk P w K mg base CX0 4 _ fd17 ["width", "thing"] (spD 2 f_17) := ok_17 F17 D_is_list D_is_below m_all
  have D_are_words : Df P w K mg base "are_words" 4 ["width", "thing"] (spD 2 f_17) := ⟨_, fd17, g17, F17.kp, b17, OK_are_words⟩
  have OK_sums_by : FnOk P w K mg base CX0 2 _ fd18 ["width", "words"] (spD 2 f_18) := ok_18 F18 D_ones
  have D_sums_by : Df P w K mg base "sums_by" 2 ["width", "words"] (spD 2 f_18) := ⟨_, fd18, g18, F18.kp, b18, OK_sums_by⟩
  have OK_why_not : FnOk P w K mg base CX0 5 _ fd19 ["width", "thing"] (spD 2 f_19) := ok_19 F19 D_are_words D_ones D_sums_by m_len m_list
  have D_why_not : Df P w K mg base "why_not" 5 ["width", "thing"] (spD 2 f_19) := ⟨_, fd19, g19, F19.kp, b19, OK_why_not⟩
  have OK_kept_store : FnOk P w K mg base CX0 5 _ fd21 ["thing"] (spD 1 f_21) := ok_21 F21 D_is_row D_is_whole D_are_words m_len m_list
  have D_kept_store : Df P w K mg base "kept_store" 5 ["thing"] (spD 1 f_21) := ⟨_, fd21, g21, F21.kp, b21, OK_kept_store⟩
  have OK_mark_by : FnOk P w K mg base CX0 1 _ fd23 ["width"] (spD 1 f_23) := ok_23 F23 m_range m_sum
  have D_mark_by : Df P w K mg base "mark_by" 1 ["width"] (spD 1 f_23) := ⟨_, fd23, g23, F23.kp, b23, OK_mark_by⟩
  have OK_need_image : FnOk P w K mg base CX0 6 _ fd24 ["width", "image", "room"] (spD 3 f_24) := ok_24 F24 D_why_not m_len m_list
  have D_need_image : Df P w K mg base "need_image" 6 ["width", "image", "room"] (spD 3 f_24) := ⟨_, fd24, g24, F24.kp, b24, OK_need_image⟩
  have OK_kept_ring : FnOk P w K mg base CX0 6 _ fd29 ["thing"] (spD 1 f_29) := ok_29 F29 D_is_row D_is_whole D_kept_store m_len
  have D_kept_ring : Df P w K mg base "kept_ring" 6 ["thing"] (spD 1 f_29) := ⟨_, fd29, g29, F29.kp, b29, OK_kept_ring⟩
  have OK_is_ring : FnOk P w K mg base CX0 7 _ fd30 ["thing"] (spD 1 f_30) := ok_30 F30 D_kept_ring
  have D_is_ring : Df P w K mg base "is_ring" 7 ["thing"] (spD 1 f_30) := ⟨_, fd30, g30, F30.kp, b30, OK_is_ring⟩
  have OK_need_ring : FnOk P w K mg base CX0 7 _ fd31 ["ring"] (spD 1 f_31) := ok_31 F31 D_kept_ring
  have D_need_ring : Df P w K mg base "need_ring" 7 ["ring"] (spD 1 f_31) := ⟨_, fd31, g31, F31.kp, b31, OK_need_ring⟩
  have OK_size_of : FnOk P w K mg base CX0 1 _ fd32 ["ring"] (spD 1 f_32) := ok_32 F32 m_len
  have D_size_of : Df P w K mg base "size_of" 1 ["ring"] (spD 1 f_32) := ⟨_, fd32, g32, F32.kp, b32, OK_size_of⟩
  have OK_cells_of : FnOk P w K mg base CX0 2 _ fd33 ["ring", "slot"] (spD 2 f_33) := ok_33 F33 D_size_of
  have D_cells_of : Df P w K mg base "cells_of" 2 ["ring", "slot"] (spD 2 f_33) := ⟨_, fd33, g33, F33.kp, b33, OK_cells_of⟩
  have OK_image_in : FnOk P w K mg base CX0 6 _ fd34 ["ring", "slot"] (spD 2 f_34) := ok_34 F34 D_cells_of D_why_not m_len
  have D_image_in : Df P w K mg base "image_in" 6 ["ring", "slot"] (spD 2 f_34) := ⟨_, fd34, g34, F34.kp, b34, OK_image_in⟩
  have OK_ring_image : FnOk P w K mg base CX0 8 _ fd35 ["ring", "slot"] (spD 2 f_35) := ok_35 F35 D_need_ring D_is_number D_image_in
  have D_ring_image : Df P w K mg base "ring_image" 8 ["ring", "slot"] (spD 2 f_35) := ⟨_, fd35, g35, F35.kp, b35, OK_ring_image⟩
  have OK_fresh_ring : FnOk P w K mg base CX0 7 _ fd36 ["width", "block", "blocks", "count", "image"] (spD 5 f_36) := ok_36 F36 D_need_width D_is_whole D_need_image D_ones D_mark_by m_len
  have D_fresh_ring : Df P w K mg base "fresh_ring" 7 ["width", "block", "blocks", "count", "image"] (spD 5 f_36) := ⟨_, fd36, g36, F36.kp, b36, OK_fresh_ring⟩
  have OK_is_valid : FnOk P w K mg base CX0 7 _ fd37 ["ring", "slot"] (spD 2 f_37) := ok_37 F37 D_mark_by D_cells_of D_image_in
  have D_is_valid : Df P w K mg base "is_valid" 7 ["ring", "slot"] (spD 2 f_37) := ⟨_, fd37, g37, F37.kp, b37, OK_is_valid⟩
  have OK_is_good : FnOk P w K mg base CX0 3 _ fd38 ["ring", "slot"] (spD 2 f_38) := ok_38 F38 D_cells_of
  have D_is_good : Df P w K mg base "is_good" 3 ["ring", "slot"] (spD 2 f_38) := ⟨_, fd38, g38, F38.kp, b38, OK_is_good⟩
  have OK_can_run : FnOk P w K mg base CX0 8 _ fd39 ["ring", "slot"] (spD 2 f_39) := ok_39 F39 D_is_valid D_cells_of D_is_good
  have D_can_run : Df P w K mg base "can_run" 8 ["ring", "slot"] (spD 2 f_39) := ⟨_, fd39, g39, F39.kp, b39, OK_can_run⟩
  have OK_run_by : FnOk P w K mg base CX0 9 _ fd40 ["ring"] (spD 1 f_40) := ok_40 F40 D_can_run D_image_in m_range
  have D_run_by : Df P w K mg base "run_by" 9 ["ring"] (spD 1 f_40) := ⟨_, fd40, g40, F40.kp, b40, OK_run_by⟩
  have OK_ring_run : FnOk P w K mg base CX0 10 _ fd41 ["ring"] (spD 1 f_41) := ok_41 F41 D_need_ring D_run_by D_image_in
  have D_ring_run : Df P w K mg base "ring_run" 10 ["ring"] (spD 1 f_41) := ⟨_, fd41, g41, F41.kp, b41, OK_ring_run⟩
  have OK_why_of : FnOk P w K mg base CX0 9 _ fd42 ["ring", "slot", "run"] (spD 3 f_42) := ok_42 F42 D_mark_by D_cells_of D_image_in D_can_run
  have D_why_of : Df P w K mg base "why_of" 9 ["ring", "slot", "run"] (spD 3 f_42) := ⟨_, fd42, g42, F42.kp, b42, OK_why_of⟩
  have OK_ring_why : FnOk P w K mg base CX0 10 _ fd43 ["ring"] (spD 1 f_43) := ok_43 F43 D_need_ring D_run_by D_why_of m_range
  have D_ring_why : Df P w K mg base "ring_why" 10 ["ring"] (spD 1 f_43) := ⟨_, fd43, g43, F43.kp, b43, OK_ring_why⟩
  have OK__law_pick : FnOk P w K mg base CX0 2 _ fd47 ["stream", "things"] (spD 2 f_47) := ok_47 F47 D__law_draw m_len
  have D__law_pick : Df P w K mg base "_law_pick" 2 ["stream", "things"] (spD 2 f_47) := ⟨_, fd47, g47, F47.kp, b47, OK__law_pick⟩
  have OK__law_is_number : FnOk P w K mg base CX0 1 _ fd54 ["thing", "most"] (spD 2 f_54) := ok_54 F54 m_bool m_int m_isinstance
  have D__law_is_number : Df P w K mg base "_law_is_number" 1 ["thing", "most"] (spD 2 f_54) := ⟨_, fd54, g54, F54.kp, b54, OK__law_is_number⟩
  have OK__law_f_sums : FnOk P w K mg base CX0 1 _ fd55 ["width", "words"] (spD 2 f_55) := ok_55 F55 m_int m_range
  have D__law_f_sums : Df P w K mg base "_law_f_sums" 1 ["width", "words"] (spD 2 f_55) := ⟨_, fd55, g55, F55.kp, b55, OK__law_f_sums⟩
  have OK__law_f_mark : FnOk P w K mg base CX0 1 _ fd56 ["width"] (spD 1 f_56) := ok_56 F56 m_int m_range
  have D__law_f_mark : Df P w K mg base "_law_f_mark" 1 ["width"] (spD 1 f_56) := ⟨_, fd56, g56, F56.kp, b56, OK__law_f_mark⟩
  have OK__law_f_ones : FnOk P w K mg base CX0 1 _ fd58 ["width"] (spD 1 f_58) := ok_58 F58 m_range
  have D__law_f_ones : Df P w K mg base "_law_f_ones" 1 ["width"] (spD 1 f_58) := ⟨_, fd58, g58, F58.kp, b58, OK__law_f_ones⟩
  have OK__law_f_image : FnOk P w K mg base CX0 2 _ fd57 ["store", "slot"] (spD 2 f_57) := ok_57 F57 D__law_f_ones D__law_f_sums m_int m_len m_range
  have D__law_f_image : Df P w K mg base "_law_f_image" 2 ["store", "slot"] (spD 2 f_57) := ⟨_, fd57, g57, F57.kp, b57, OK__law_f_image⟩
  have OK__law_f_fresh : FnOk P w K mg base CX0 2 _ fd59 ["width", "block", "blocks", "image"] (spD 4 f_59) := ok_59 F59 D__law_f_ones D__law_f_mark m_len m_list
  have D__law_f_fresh : Df P w K mg base "_law_f_fresh" 2 ["width", "block", "blocks", "image"] (spD 4 f_59) := ⟨_, fd59, g59, F59.kp, b59, OK__law_f_fresh⟩
  have OK__law_f_and : FnOk P w K mg base CX0 1 _ fd60 ["one", "other"] (spD 2 f_60) := ok_60 F60 m_int m_max
  have D__law_f_and : Df P w K mg base "_law_f_and" 1 ["one", "other"] (spD 2 f_60) := ⟨_, fd60, g60, F60.kp, b60, OK__law_f_and⟩
  have OK__law_f_done : FnOk P w K mg base CX0 2 _ fd61 ["store", "op"] (spD 2 f_61) := ok_61 F61 D__law_f_and D__law_f_ones m_list
  have D__law_f_done : Df P w K mg base "_law_f_done" 2 ["store", "op"] (spD 2 f_61) := ⟨_, fd61, g61, F61.kp, b61, OK__law_f_done⟩
  have OK__law_f_torn : FnOk P w K mg base CX0 3 _ fd62 ["stream", "store", "op"] (spD 3 f_62) := ok_62 F62 D__law_draw D__law_f_done D__law_f_and m_int m_max m_range
  have D__law_f_torn : Df P w K mg base "_law_f_torn" 3 ["stream", "store", "op"] (spD 3 f_62) := ⟨_, fd62, g62, F62.kp, b62, OK__law_f_torn⟩
  have OK__law_f_cut : FnOk P w K mg base CX0 3 _ fd63 ["store", "ops", "index", "torn"] (spD 4 f_63) := ok_63 F63 D__law_f_done m_list
  have D__law_f_cut : Df P w K mg base "_law_f_cut" 3 ["store", "ops", "index", "torn"] (spD 4 f_63) := ⟨_, fd63, g63, F63.kp, b63, OK__law_f_cut⟩
  have OK__law_f_is_torn : FnOk P w K mg base CX0 3 _ fd64 ["store", "ops", "index", "torn"] (spD 4 f_64) := ok_64 F64 D__law_f_done D__law_f_and m_len m_range
  have D__law_f_is_torn : Df P w K mg base "_law_f_is_torn" 3 ["store", "ops", "index", "torn"] (spD 4 f_64) := ⟨_, fd64, g64, F64.kp, b64, OK__law_f_is_torn⟩
  have OK__law_g_drawn_image : FnOk P w K mg base CX0 2 _ fd65 ["stream", "width", "version"] (spD 3 f_65) := ok_65 F65 D__law_draw D__law_f_ones D__law_f_sums m_len m_range
  have D__law_g_drawn_image : Df P w K mg base "_law_g_drawn_image" 2 ["stream", "width", "version"] (spD 3 f_65) := ⟨_, fd65, g65, F65.kp, b65, OK__law_g_drawn_image⟩
  have OK__law_g_cells : FnOk P w K mg base CX0 1 _ fd66 ["ring", "slot"] (spD 2 f_66) := ok_66 F66 m_len
  have D__law_g_cells : Df P w K mg base "_law_g_cells" 1 ["ring", "slot"] (spD 2 f_66) := ⟨_, fd66, g66, F66.kp, b66, OK__law_g_cells⟩
  have OK__law_g_image : FnOk P w K mg base CX0 3 _ fd67 ["ring", "slot"] (spD 2 f_67) := ok_67 F67 D__law_g_cells D__law_f_image
  have D__law_g_image : Df P w K mg base "_law_g_image" 3 ["ring", "slot"] (spD 2 f_67) := ⟨_, fd67, g67, F67.kp, b67, OK__law_g_image⟩
  have OK__law_g_fresh : FnOk P w K mg base CX0 3 _ fd68 ["width", "block", "blocks", "count", "image"] (spD 5 f_68) := ok_68 F68 D__law_f_fresh D__law_f_ones
  have D__law_g_fresh : Df P w K mg base "_law_g_fresh" 3 ["width", "block", "blocks", "count", "image"] (spD 5 f_68) := ⟨_, fd68, g68, F68.kp, b68, OK__law_g_fresh⟩
  have OK__law_g_whys : FnOk P w K mg base CX0 4 _ fd69 ["ring"] (spD 1 f_69) := ok_69 F69 D__law_f_mark D__law_g_image D__law_g_cells m_enumerate m_range
  have D__law_g_whys : Df P w K mg base "_law_g_whys" 4 ["ring"] (spD 1 f_69) := ⟨_, fd69, g69, F69.kp, b69, OK__law_g_whys⟩
  have OK__law_g_run : FnOk P w K mg base CX0 5 _ fd70 ["ring"] (spD 1 f_70) := ok_70 F70 D__law_g_whys
  have D__law_g_run : Df P w K mg base "_law_g_run" 5 ["ring"] (spD 1 f_70) := ⟨_, fd70, g70, F70.kp, b70, OK__law_g_run⟩
  have OK__law_g_ops : FnOk P w K mg base CX0 6 _ fd71 ["ring", "run", "event"] (spD 3 f_71) := ok_71 F71 D__law_g_run D__law_g_cells D__law_g_image D__law_g_whys D__law_f_sums D__law_f_mark m_enumerate m_len m_range
  have D__law_g_ops : Df P w K mg base "_law_g_ops" 6 ["ring", "run", "event"] (spD 3 f_71) := ⟨_, fd71, g71, F71.kp, b71, OK__law_g_ops⟩
  have OK__law_g_step : FnOk P w K mg base CX0 7 _ fd72 ["ring", "run", "event"] (spD 3 f_72) := ok_72 F72 D__law_g_ops D__law_f_done D__law_f_is_torn D__law_f_cut m_len
  have D__law_g_step : Df P w K mg base "_law_g_step" 7 ["ring", "run", "event"] (spD 3 f_72) := ⟨_, fd72, g72, F72.kp, b72, OK__law_g_step⟩
  have OK__law_g_events : FnOk P w K mg base CX0 8 _ fd73 ["stream", "ring", "many"] (spD 3 f_73) := ok_73 F73 D__law_draw D__law_g_drawn_image D__law_f_ones D__law_g_image D__law_f_sums D__law_g_ops D__law_f_done D__law_f_torn D__law_g_step m_len m_min m_range
  have D__law_g_events : Df P w K mg base "_law_g_events" 8 ["stream", "ring", "many"] (spD 3 f_73) := ⟨_, fd73, g73, F73.kp, b73, OK__law_g_events⟩
  have OK__law_g_ring : FnOk P w K mg base CX0 4 _ fd74 ["stream"] (spD 1 f_74) := ok_74 F74 D__law_pick D__law_draw D__law_g_drawn_image D__law_g_fresh m_int m_len m_max
  have D__law_g_ring : Df P w K mg base "_law_g_ring" 4 ["stream"] (spD 1 f_74) := ⟨_, fd74, g74, F74.kp, b74, OK__law_g_ring⟩
  have DK_fresh_ring_0_image_count_blocks_block_width : DfK P w K mg base "fresh_ring" 7 ["width", "block", "blocks", "count", "image"] 0 ["image", "count", "blocks", "block", "width"] [4, 3, 2, 1, 0] (spD 5 f_36) := ⟨_, fd36, g36, F36.kp, kbn_of F36 (fun _ _ _ _ _ _ us ws h1 h2 => match us, ws, h1, h2 with | [], [_, _, _, _, _], _, _ => rfl), OK_fresh_ring⟩
  have DK_ring_run_0_ring : DfK P w K mg base "ring_run" 10 ["ring"] 0 ["ring"] [0] (spD 1 f_41) := ⟨_, fd41, g41, F41.kp, kbn_of F41 (fun _ _ _ _ _ _ us ws h1 h2 => match us, ws, h1, h2 with | [], [_], _, _ => rfl), OK_ring_run⟩
  have DK_ring_why_0_ring : DfK P w K mg base "ring_why" 10 ["ring"] 0 ["ring"] [0] (spD 1 f_43) := ⟨_, fd43, g43, F43.kp, kbn_of F43 (fun _ _ _ _ _ _ us ws h1 h2 => match us, ws, h1, h2 with | [], [_], _, _ => rfl), OK_ring_why⟩
  have DK_ring_image_0_slot_ring : DfK P w K mg base "ring_image" 8 ["ring", "slot"] 0 ["slot", "ring"] [1, 0] (spD 2 f_35) := ⟨_, fd35, g35, F35.kp, kbn_of F35 (fun _ _ _ _ _ _ us ws h1 h2 => match us, ws, h1, h2 with | [], [_, _], _, _ => rfl), OK_ring_image⟩
  have DK_is_ring_0_thing : DfK P w K mg base "is_ring" 7 ["thing"] 0 ["thing"] [0] (spD 1 f_30) := ⟨_, fd30, g30, F30.kp, kbn_of F30 (fun _ _ _ _ _ _ us ws h1 h2 => match us, ws, h1, h2 with | [], [_], _, _ => rfl), OK_is_ring⟩
  exact ok_75 F75 (code_of F75) TB (by rw [hTT]; exact List.mem_singleton.mpr rfl) (by rw [hTT]; intro p hp _; rw [List.mem_singleton.mp hp]) DT D_twice D__law_g_ring D__law_g_image D__law_loose D_fresh_ring D__law_g_events D__law_draw D__law_pick D__law_f_ones D__law_f_mark D__law_g_run D__law_g_whys D__law_copied D_ring_run D_ring_why D__law_same D_ring_image D__law_mixed D__law_is_number D_is_ring DK_fresh_ring_0_image_count_blocks_block_width DK_ring_run_0_ring DK_ring_why_0_ring DK_ring_image_0_slot_ring DK_is_ring_0_thing m_all m_int m_isinstance m_len m_list m_range m_tuple law_ok
end
end M4
open PySem PySem.W PySem.Calls PyProof.Rows
theorem PySem.Challenge.cw_neverhalf_k04_whole_rings_and_which_runs_holds : PySem.Challenge.rw_neverhalf_k04_whole_rings_and_which_runs.Holds := by
  w_on; o_law
  refine HandSHeadRun.head_any (r := OpenLaw.row PySem.Challenge.rw_neverhalf_k04_whole_rings_and_which_runs) (q := view (OpenLaw.row PySem.Challenge.rw_neverhalf_k04_whole_rings_and_which_runs).prog [75]) (H := H4.hk) (ob := H4.ob) (M := 4300) (loose := H4.loose) (d := HandSHeadRun.topDef (OpenLaw.row PySem.Challenge.rw_neverhalf_k04_whole_rings_and_which_runs).prog 75) (kwd := []) H4.ob_eq
    (by kernel_rfl) (fun s => by kernel_rfl) H4.run (by kernel_rfl) (by kernel_rfl) (by kernel_rfl) (by rfl) (by first | assumption | decide +kernel) (by decide +kernel) ⟨rfl, rfl, rfl, rfl, rfl, by decide +kernel⟩ ?hw ?hc
  case hw => w_witness2
  case hc =>
    refine LamX.walk_ofTsE (l := PySem.Challenge.rw_neverhalf_k04_whole_rings_and_which_runs) (n := 63) (k := 22) (x := "script") (CX := fun _ => L2.CX0) rfl (by decide) (by kernel_rfl) ⟨rfl, by decide, by decide⟩ ?F (fun _ _ _ _ _ z => z)
    intro w mg fa h Y G hmg0
    have hmg : mg ("law" : PySem.Str) = some (.ref fa) := by
      have e : (HandSHeadRun.topDef (OpenLaw.row PySem.Challenge.rw_neverhalf_k04_whole_rings_and_which_runs).prog 75).name = ("law" : PySem.Str) := by kernel_rfl
      rw [← e]
      exact hmg0
    obtain ⟨K, KX, c⟩ := Y
    obtain ⟨fd, hb, hF⟩ := M4.all_facts (P := (PySem.Challenge.rw_neverhalf_k04_whole_rings_and_which_runs).prog) (w := w) KX G c hmg
    have hp : (("law", none) : He.Defn) ∈ H4.tf := List.mem_singleton.mpr rfl
    letI : DL.TabsOf := ⟨[(He.tabOf K (He.codeOf K ("law", none)), ("law.<locals>.<lambda>" : PySem.Str))]⟩
    refine ⟨K, KX, fd, [He.cT K ("law", none)], N4.spLawT K, fun p hq => ?_, fun p hq => ?_, fun p hq => ?_, hb, fun H a ns hl _ hH hS => ?_, fun base _ _ TB => ?_⟩
    · rw [List.mem_singleton.mp hq]; exact c.empty _ hp
    · rw [List.mem_singleton.mp hq]; exact c.out _ hp
    · rw [List.mem_singleton.mp hq]; exact codeHd_of_K KX (c.hd _ hp)
    · refine ⟨a, ns, rfl, hS, hl, fun p hq => ?_, fun _ => rfl⟩
      rw [List.mem_singleton.mp hq]
      exact LamX.TabS.nil (hH _ (List.mem_singleton.mpr rfl))
    · exact hF base (TB _ (List.mem_singleton.mpr rfl)) rfl
