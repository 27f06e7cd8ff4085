import Derived.Test.YtfifnemnihcijaaGreatDoorKSt
import Derived.BigRegion
set_option linter.unusedSimpArgs false
set_option linter.unusedVariables false
set_option maxHeartbeats 16000000
set_option maxRecDepth 100000
namespace Go.Proofs.YtfifnemnihcijaaGreatDoor
open Go.RowKit
def effZero:Value:=.agg #[.bool false,.nilFunc,.nilFunc,.nilFunc]
theorem effects_add (t a n:ByteArray) (to_ dk dn:Int) (ds:ByteArray) (w:World) :
  Calls Tryz.prog 67 #[.agg #[.int .i64 1,.string t,.string a,.string n,.int .i64 to_,.int .i64 dk,.int .i64 dn,.string ds]] w fun e w' => e = .returned (.tuple #[effAdd,.bool (decide (a.size = 0))]) ∧ Same w w':=by
 by_cases h0:a.size = 0
 case neg =>
  have p0:¬ a.toList = []:=fun h => h0 ((isE_nil a).1 h)
  have HD:Hid (decide (a.size = 0) = false):=by show _ = false;simp [h0]
  generalize decide (a.size = 0) = q at HD ⊢
  clear h0
  go_enter Tryz.func67,Tryz.ntmps67
  go_wp2_with (go_at_call 87;refine (adding_ok _).mono ?_;rintro e w1 ⟨he,s1⟩;unfold effAdd fnV at he;subst he;have S1:=Lib.hid s1;have K1:=s1.cells;have F1:=s1.frees;have Z1:=s1.size;clear s1)
  go_region
  all_goals
   go_wp2
   refine bodyPost_ret (v:=.tuple #[effAdd,.bool false]) ?_ rfl ⟨?_,?_⟩
   ·simp [results,Tryz.results67,go_sem,effAdd,fnV,K1,F1]
   ·rw [HD.out]
   ·simp at Z1
    repeat with_reducible first | refine Same.setCell ?_ (by dsimp only;omega) _ | refine Same.drew ?_
    exact (((((Same.refl w).alloc _).alloc _).alloc _).alloc _).trans S1.out
 case pos =>
  have p0:=(isE_nil a).2 h0
  have HD:Hid (decide (a.size = 0) = true):=by show _ = true;simp [h0]
  generalize decide (a.size = 0) = q at HD ⊢
  clear h0
  go_enter Tryz.func67,Tryz.ntmps67
  go_wp2_with (go_at_call 87;refine (adding_ok _).mono ?_;rintro e w1 ⟨he,s1⟩;unfold effAdd fnV at he;subst he;have S1:=Lib.hid s1;have K1:=s1.cells;have F1:=s1.frees;have Z1:=s1.size;clear s1)
  go_region
  all_goals
   go_wp2
   refine bodyPost_ret (v:=.tuple #[effAdd,.bool true]) ?_ rfl ⟨?_,?_⟩
   ·simp [results,Tryz.results67,go_sem,effAdd,fnV,K1,F1]
   ·rw [HD.out]
   ·simp at Z1
    repeat with_reducible first | refine Same.setCell ?_ (by dsimp only;omega) _ | refine Same.drew ?_
    exact (((((Same.refl w).alloc _).alloc _).alloc _).alloc _).trans S1.out
theorem effects_drop (t a n:ByteArray) (to_ dk dn:Int) (ds:ByteArray) (w:World) :
  Calls Tryz.prog 67 #[.agg #[.int .i64 2,.string t,.string a,.string n,.int .i64 to_,.int .i64 dk,.int .i64 dn,.string ds]] w fun e w' => e = .returned (.tuple #[effDrop,.bool (decide (n.size = 0) && (decide (to_ = 0) && (decide (dk = 0) && (decide (dn = 0) && decide (ds.size = 0)))))]) ∧ Same w w':=by
 by_cases h0:n.size = 0
 case neg =>
  have p0:¬ n.toList = []:=fun h => h0 ((isE_nil n).1 h)
  have HD:Hid ((decide (n.size = 0) && (decide (to_ = 0) && (decide (dk = 0) && (decide (dn = 0) && decide (ds.size = 0))))) = false):=by show _ = false;simp [h0]
  generalize (decide (n.size = 0) && (decide (to_ = 0) && (decide (dk = 0) && (decide (dn = 0) && decide (ds.size = 0))))) = q at HD ⊢
  clear h0
  go_enter Tryz.func67,Tryz.ntmps67
  go_wp2_with (go_at_call 88;refine (dropping_ok _).mono ?_;rintro e w1 ⟨he,s1⟩;unfold effDrop fnV at he;subst he;have S1:=Lib.hid s1;have K1:=s1.cells;have F1:=s1.frees;have Z1:=s1.size;clear s1)
  go_region
  all_goals
   go_wp2
   refine bodyPost_ret (v:=.tuple #[effDrop,.bool false]) ?_ rfl ⟨?_,?_⟩
   ·simp [results,Tryz.results67,go_sem,effDrop,fnV,K1,F1]
   ·rw [HD.out]
   ·simp at Z1
    repeat with_reducible first | refine Same.setCell ?_ (by dsimp only;omega) _ | refine Same.drew ?_
    exact (((((Same.refl w).alloc _).alloc _).alloc _).alloc _).trans S1.out
 case pos =>
  by_cases h1:to_ = 0
  case neg =>
   have p0:=(isE_nil n).2 h0
   have HD:Hid ((decide (n.size = 0) && (decide (to_ = 0) && (decide (dk = 0) && (decide (dn = 0) && decide (ds.size = 0))))) = false):=by show _ = false;simp [h0,h1]
   generalize (decide (n.size = 0) && (decide (to_ = 0) && (decide (dk = 0) && (decide (dn = 0) && decide (ds.size = 0))))) = q at HD ⊢
   clear h0
   go_enter Tryz.func67,Tryz.ntmps67
   go_wp2_with (go_at_call 88;refine (dropping_ok _).mono ?_;rintro e w1 ⟨he,s1⟩;unfold effDrop fnV at he;subst he;have S1:=Lib.hid s1;have K1:=s1.cells;have F1:=s1.frees;have Z1:=s1.size;clear s1)
   go_region
   all_goals
    go_wp2
    refine bodyPost_ret (v:=.tuple #[effDrop,.bool false]) ?_ rfl ⟨?_,?_⟩
    ·simp [results,Tryz.results67,go_sem,effDrop,fnV,K1,F1]
    ·rw [HD.out]
    ·simp at Z1
     repeat with_reducible first | refine Same.setCell ?_ (by dsimp only;omega) _ | refine Same.drew ?_
     exact (((((Same.refl w).alloc _).alloc _).alloc _).alloc _).trans S1.out
  case pos =>
   by_cases h2:dk = 0
   case neg =>
    have p0:=(isE_nil n).2 h0
    have HD:Hid ((decide (n.size = 0) && (decide (to_ = 0) && (decide (dk = 0) && (decide (dn = 0) && decide (ds.size = 0))))) = false):=by show _ = false;simp [h0,h1,h2]
    generalize (decide (n.size = 0) && (decide (to_ = 0) && (decide (dk = 0) && (decide (dn = 0) && decide (ds.size = 0))))) = q at HD ⊢
    clear h0
    subst h1
    go_enter Tryz.func67,Tryz.ntmps67
    go_wp2_with (go_at_call 88;refine (dropping_ok _).mono ?_;rintro e w1 ⟨he,s1⟩;unfold effDrop fnV at he;subst he;have S1:=Lib.hid s1;have K1:=s1.cells;have F1:=s1.frees;have Z1:=s1.size;clear s1)
    go_region
    all_goals
     go_wp2
     refine bodyPost_ret (v:=.tuple #[effDrop,.bool false]) ?_ rfl ⟨?_,?_⟩
     ·simp [results,Tryz.results67,go_sem,effDrop,fnV,K1,F1]
     ·rw [HD.out]
     ·simp at Z1
      repeat with_reducible first | refine Same.setCell ?_ (by dsimp only;omega) _ | refine Same.drew ?_
      exact (((((Same.refl w).alloc _).alloc _).alloc _).alloc _).trans S1.out
   case pos =>
    by_cases h3:dn = 0
    case neg =>
     have p0:=(isE_nil n).2 h0
     have HD:Hid ((decide (n.size = 0) && (decide (to_ = 0) && (decide (dk = 0) && (decide (dn = 0) && decide (ds.size = 0))))) = false):=by show _ = false;simp [h0,h1,h2,h3]
     generalize (decide (n.size = 0) && (decide (to_ = 0) && (decide (dk = 0) && (decide (dn = 0) && decide (ds.size = 0))))) = q at HD ⊢
     clear h0
     subst h1
     subst h2
     go_enter Tryz.func67,Tryz.ntmps67
     go_wp2_with (go_at_call 88;refine (dropping_ok _).mono ?_;rintro e w1 ⟨he,s1⟩;unfold effDrop fnV at he;subst he;have S1:=Lib.hid s1;have K1:=s1.cells;have F1:=s1.frees;have Z1:=s1.size;clear s1)
     go_region
     all_goals
      go_wp2
      refine bodyPost_ret (v:=.tuple #[effDrop,.bool false]) ?_ rfl ⟨?_,?_⟩
      ·simp [results,Tryz.results67,go_sem,effDrop,fnV,K1,F1]
      ·rw [HD.out]
      ·simp at Z1
       repeat with_reducible first | refine Same.setCell ?_ (by dsimp only;omega) _ | refine Same.drew ?_
       exact (((((Same.refl w).alloc _).alloc _).alloc _).alloc _).trans S1.out
    case pos =>
     by_cases h4:ds.size = 0
     case neg =>
      have p0:=(isE_nil n).2 h0
      have p4:¬ ds.toList = []:=fun h => h4 ((isE_nil ds).1 h)
      have HD:Hid ((decide (n.size = 0) && (decide (to_ = 0) && (decide (dk = 0) && (decide (dn = 0) && decide (ds.size = 0))))) = false):=by show _ = false;simp [h0,h1,h2,h3,h4]
      generalize (decide (n.size = 0) && (decide (to_ = 0) && (decide (dk = 0) && (decide (dn = 0) && decide (ds.size = 0))))) = q at HD ⊢
      clear h0 h4
      subst h1
      subst h2
      subst h3
      go_enter Tryz.func67,Tryz.ntmps67
      go_wp2_with (go_at_call 88;refine (dropping_ok _).mono ?_;rintro e w1 ⟨he,s1⟩;unfold effDrop fnV at he;subst he;have S1:=Lib.hid s1;have K1:=s1.cells;have F1:=s1.frees;have Z1:=s1.size;clear s1)
      go_region
      all_goals
       go_wp2
       refine bodyPost_ret (v:=.tuple #[effDrop,.bool false]) ?_ rfl ⟨?_,?_⟩
       ·simp [results,Tryz.results67,go_sem,effDrop,fnV,K1,F1]
       ·rw [HD.out]
       ·simp at Z1
        repeat with_reducible first | refine Same.setCell ?_ (by dsimp only;omega) _ | refine Same.drew ?_
        exact (((((Same.refl w).alloc _).alloc _).alloc _).alloc _).trans S1.out
     case pos =>
      have p0:=(isE_nil n).2 h0
      have p4:=(isE_nil ds).2 h4
      have HD:Hid ((decide (n.size = 0) && (decide (to_ = 0) && (decide (dk = 0) && (decide (dn = 0) && decide (ds.size = 0))))) = true):=by show _ = true;simp [h0,h1,h2,h3,h4]
      generalize (decide (n.size = 0) && (decide (to_ = 0) && (decide (dk = 0) && (decide (dn = 0) && decide (ds.size = 0))))) = q at HD ⊢
      clear h0 h4
      subst h1
      subst h2
      subst h3
      go_enter Tryz.func67,Tryz.ntmps67
      go_wp2_with (go_at_call 88;refine (dropping_ok _).mono ?_;rintro e w1 ⟨he,s1⟩;unfold effDrop fnV at he;subst he;have S1:=Lib.hid s1;have K1:=s1.cells;have F1:=s1.frees;have Z1:=s1.size;clear s1)
      go_region
      all_goals
       go_wp2
       refine bodyPost_ret (v:=.tuple #[effDrop,.bool true]) ?_ rfl ⟨?_,?_⟩
       ·simp [results,Tryz.results67,go_sem,effDrop,fnV,K1,F1]
       ·rw [HD.out]
       ·simp at Z1
        repeat with_reducible first | refine Same.setCell ?_ (by dsimp only;omega) _ | refine Same.drew ?_
        exact (((((Same.refl w).alloc _).alloc _).alloc _).alloc _).trans S1.out
theorem effects_ren (t a n:ByteArray) (to_ dk dn:Int) (ds:ByteArray) (w:World) :
  Calls Tryz.prog 67 #[.agg #[.int .i64 3,.string t,.string a,.string n,.int .i64 to_,.int .i64 dk,.int .i64 dn,.string ds]] w fun e w' => e = .returned (.tuple #[effRen,.bool (decide (to_ = 0) && (decide (dk = 0) && (decide (dn = 0) && decide (ds.size = 0))))]) ∧ Same w w':=by
 by_cases h0:to_ = 0
 case neg =>
  have HD:Hid ((decide (to_ = 0) && (decide (dk = 0) && (decide (dn = 0) && decide (ds.size = 0)))) = false):=by show _ = false;simp [h0]
  generalize (decide (to_ = 0) && (decide (dk = 0) && (decide (dn = 0) && decide (ds.size = 0)))) = q at HD ⊢
  go_enter Tryz.func67,Tryz.ntmps67
  go_wp2_with (go_at_call 89;refine (renaming_ok _).mono ?_;rintro e w1 ⟨he,s1⟩;unfold effRen fnV at he;subst he;have S1:=Lib.hid s1;have K1:=s1.cells;have F1:=s1.frees;have Z1:=s1.size;clear s1)
  go_region
  all_goals
   go_wp2
   refine bodyPost_ret (v:=.tuple #[effRen,.bool false]) ?_ rfl ⟨?_,?_⟩
   ·simp [results,Tryz.results67,go_sem,effRen,fnV,K1,F1]
   ·rw [HD.out]
   ·simp at Z1
    repeat with_reducible first | refine Same.setCell ?_ (by dsimp only;omega) _ | refine Same.drew ?_
    exact (((((Same.refl w).alloc _).alloc _).alloc _).alloc _).trans S1.out
 case pos =>
  by_cases h1:dk = 0
  case neg =>
   have HD:Hid ((decide (to_ = 0) && (decide (dk = 0) && (decide (dn = 0) && decide (ds.size = 0)))) = false):=by show _ = false;simp [h0,h1]
   generalize (decide (to_ = 0) && (decide (dk = 0) && (decide (dn = 0) && decide (ds.size = 0)))) = q at HD ⊢
   subst h0
   go_enter Tryz.func67,Tryz.ntmps67
   go_wp2_with (go_at_call 89;refine (renaming_ok _).mono ?_;rintro e w1 ⟨he,s1⟩;unfold effRen fnV at he;subst he;have S1:=Lib.hid s1;have K1:=s1.cells;have F1:=s1.frees;have Z1:=s1.size;clear s1)
   go_region
   all_goals
    go_wp2
    refine bodyPost_ret (v:=.tuple #[effRen,.bool false]) ?_ rfl ⟨?_,?_⟩
    ·simp [results,Tryz.results67,go_sem,effRen,fnV,K1,F1]
    ·rw [HD.out]
    ·simp at Z1
     repeat with_reducible first | refine Same.setCell ?_ (by dsimp only;omega) _ | refine Same.drew ?_
     exact (((((Same.refl w).alloc _).alloc _).alloc _).alloc _).trans S1.out
  case pos =>
   by_cases h2:dn = 0
   case neg =>
    have HD:Hid ((decide (to_ = 0) && (decide (dk = 0) && (decide (dn = 0) && decide (ds.size = 0)))) = false):=by show _ = false;simp [h0,h1,h2]
    generalize (decide (to_ = 0) && (decide (dk = 0) && (decide (dn = 0) && decide (ds.size = 0)))) = q at HD ⊢
    subst h0
    subst h1
    go_enter Tryz.func67,Tryz.ntmps67
    go_wp2_with (go_at_call 89;refine (renaming_ok _).mono ?_;rintro e w1 ⟨he,s1⟩;unfold effRen fnV at he;subst he;have S1:=Lib.hid s1;have K1:=s1.cells;have F1:=s1.frees;have Z1:=s1.size;clear s1)
    go_region
    all_goals
     go_wp2
     refine bodyPost_ret (v:=.tuple #[effRen,.bool false]) ?_ rfl ⟨?_,?_⟩
     ·simp [results,Tryz.results67,go_sem,effRen,fnV,K1,F1]
     ·rw [HD.out]
     ·simp at Z1
      repeat with_reducible first | refine Same.setCell ?_ (by dsimp only;omega) _ | refine Same.drew ?_
      exact (((((Same.refl w).alloc _).alloc _).alloc _).alloc _).trans S1.out
   case pos =>
    by_cases h3:ds.size = 0
    case neg =>
     have p3:¬ ds.toList = []:=fun h => h3 ((isE_nil ds).1 h)
     have HD:Hid ((decide (to_ = 0) && (decide (dk = 0) && (decide (dn = 0) && decide (ds.size = 0)))) = false):=by show _ = false;simp [h0,h1,h2,h3]
     generalize (decide (to_ = 0) && (decide (dk = 0) && (decide (dn = 0) && decide (ds.size = 0)))) = q at HD ⊢
     clear h3
     subst h0
     subst h1
     subst h2
     go_enter Tryz.func67,Tryz.ntmps67
     go_wp2_with (go_at_call 89;refine (renaming_ok _).mono ?_;rintro e w1 ⟨he,s1⟩;unfold effRen fnV at he;subst he;have S1:=Lib.hid s1;have K1:=s1.cells;have F1:=s1.frees;have Z1:=s1.size;clear s1)
     go_region
     all_goals
      go_wp2
      refine bodyPost_ret (v:=.tuple #[effRen,.bool false]) ?_ rfl ⟨?_,?_⟩
      ·simp [results,Tryz.results67,go_sem,effRen,fnV,K1,F1]
      ·rw [HD.out]
      ·simp at Z1
       repeat with_reducible first | refine Same.setCell ?_ (by dsimp only;omega) _ | refine Same.drew ?_
       exact (((((Same.refl w).alloc _).alloc _).alloc _).alloc _).trans S1.out
    case pos =>
     have p3:=(isE_nil ds).2 h3
     have HD:Hid ((decide (to_ = 0) && (decide (dk = 0) && (decide (dn = 0) && decide (ds.size = 0)))) = true):=by show _ = true;simp [h0,h1,h2,h3]
     generalize (decide (to_ = 0) && (decide (dk = 0) && (decide (dn = 0) && decide (ds.size = 0)))) = q at HD ⊢
     clear h3
     subst h0
     subst h1
     subst h2
     go_enter Tryz.func67,Tryz.ntmps67
     go_wp2_with (go_at_call 89;refine (renaming_ok _).mono ?_;rintro e w1 ⟨he,s1⟩;unfold effRen fnV at he;subst he;have S1:=Lib.hid s1;have K1:=s1.cells;have F1:=s1.frees;have Z1:=s1.size;clear s1)
     go_region
     all_goals
      go_wp2
      refine bodyPost_ret (v:=.tuple #[effRen,.bool true]) ?_ rfl ⟨?_,?_⟩
      ·simp [results,Tryz.results67,go_sem,effRen,fnV,K1,F1]
      ·rw [HD.out]
      ·simp at Z1
       repeat with_reducible first | refine Same.setCell ?_ (by dsimp only;omega) _ | refine Same.drew ?_
       exact (((((Same.refl w).alloc _).alloc _).alloc _).alloc _).trans S1.out
theorem effects_cast (t a n:ByteArray) (to_ dk dn:Int) (ds:ByteArray) (w:World) :
  Calls Tryz.prog 67 #[.agg #[.int .i64 4,.string t,.string a,.string n,.int .i64 to_,.int .i64 dk,.int .i64 dn,.string ds]] w fun e w' => e = .returned (.tuple #[effCast,.bool (decide (n.size = 0))]) ∧ Same w w':=by
 by_cases h0:n.size = 0
 case neg =>
  have p0:¬ n.toList = []:=fun h => h0 ((isE_nil n).1 h)
  have HD:Hid (decide (n.size = 0) = false):=by show _ = false;simp [h0]
  generalize decide (n.size = 0) = q at HD ⊢
  clear h0
  go_enter Tryz.func67,Tryz.ntmps67
  go_wp2_with (go_at_call 90;refine (casting_ok _).mono ?_;rintro e w1 ⟨he,s1⟩;unfold effCast fnV at he;subst he;have S1:=Lib.hid s1;have K1:=s1.cells;have F1:=s1.frees;have Z1:=s1.size;clear s1)
  go_region
  all_goals
   go_wp2
   refine bodyPost_ret (v:=.tuple #[effCast,.bool false]) ?_ rfl ⟨?_,?_⟩
   ·simp [results,Tryz.results67,go_sem,effCast,fnV,K1,F1]
   ·rw [HD.out]
   ·simp at Z1
    repeat with_reducible first | refine Same.setCell ?_ (by dsimp only;omega) _ | refine Same.drew ?_
    exact (((((Same.refl w).alloc _).alloc _).alloc _).alloc _).trans S1.out
 case pos =>
  have p0:=(isE_nil n).2 h0
  have HD:Hid (decide (n.size = 0) = true):=by show _ = true;simp [h0]
  generalize decide (n.size = 0) = q at HD ⊢
  clear h0
  go_enter Tryz.func67,Tryz.ntmps67
  go_wp2_with (go_at_call 90;refine (casting_ok _).mono ?_;rintro e w1 ⟨he,s1⟩;unfold effCast fnV at he;subst he;have S1:=Lib.hid s1;have K1:=s1.cells;have F1:=s1.frees;have Z1:=s1.size;clear s1)
  go_region
  all_goals
   go_wp2
   refine bodyPost_ret (v:=.tuple #[effCast,.bool true]) ?_ rfl ⟨?_,?_⟩
   ·simp [results,Tryz.results67,go_sem,effCast,fnV,K1,F1]
   ·rw [HD.out]
   ·simp at Z1
    repeat with_reducible first | refine Same.setCell ?_ (by dsimp only;omega) _ | refine Same.drew ?_
    exact (((((Same.refl w).alloc _).alloc _).alloc _).alloc _).trans S1.out
theorem effects_else (k:Int) (t a n:ByteArray) (to_ dk dn:Int) (ds:ByteArray) (w:World) (h1:k ≠ 1) (h2:k ≠ 2) (h3:k ≠ 3) (h4:k ≠ 4) :
  Calls Tryz.prog 67 #[.agg #[.int .i64 k,.string t,.string a,.string n,.int .i64 to_,.int .i64 dk,.int .i64 dn,.string ds]] w fun e w' => e = .returned (.tuple #[effZero,.bool false]) ∧ Same w w':=by
 have t1:(k == 1) = false:=by simpa using h1
 have t2:(k == 2) = false:=by simpa using h2
 have t3:(k == 3) = false:=by simpa using h3
 have t4:(k == 4) = false:=by simpa using h4
 clear h1 h2 h3 h4
 go_enter Tryz.func67,Tryz.ntmps67
 go_wp2
 refine bodyPost_ret (v:=.tuple #[effZero,.bool false]) ?_ rfl ⟨rfl,?_⟩
 ·simp [results,Tryz.results67,go_sem,effZero]
 ·repeat (with_reducible refine Same.setCell ?_ (by dsimp only;omega) _)
  exact ((((Same.refl w).alloc _).alloc _).alloc _).alloc _
end Go.Proofs.YtfifnemnihcijaaGreatDoor
