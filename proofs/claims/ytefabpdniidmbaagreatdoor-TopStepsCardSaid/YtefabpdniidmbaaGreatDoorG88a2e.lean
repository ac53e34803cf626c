namespace Go.Proofs.YtefabpdniidmbaaGreatDoor
theorem E.{u}{A:Sort u}{a:A}:a=a:=rfl
end Go.Proofs.YtefabpdniidmbaaGreatDoor
